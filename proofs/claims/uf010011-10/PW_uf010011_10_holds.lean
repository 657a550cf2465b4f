import PyProof.Rows.All
import PyProof.Logic
import PyProof.TupleKey
import PyProof.DictRoadsH
import PyProof.DictKinds
import PyProof.EqKinds
import KE.KDictList
import PyProof.Walks
import PyProof.WalksMore
import PyProof.TupleIter
import PyProof.RangeIter
import PyProof.Rows.MatchSeqLen
import PyProof.ExcInit
import PyProof.ExcClass3
import PyProof.InstStoreFacts
import PyProof.AssignAttr
import PyProof.Cells
import PyProof.ExcBaseAll.ValueError
import OpenK.KWalk
import PyProof.StationsW
import PyProof.P3Statements
import PyProof.Dict
import PyProof.CompIC
import KE.KTryMore
import PyProof.RulesAs
import PyProof.ExcAttrAll.ValueError
import PyProof.Rows.OwnQ
import Open.Head
import Open.Tree
import PyProof.EvalArms
import PyProof.Calls
import PyProof.CallRoads
import PyProof.PureInt
import PyProof.DefCall
import PyProof.SliceMore
import PyProof.ListOps
import PyProof.TupleOps
import PyProof.NoPylong
import PyProof.Rows.RuleB_small
import PyProof.Rows.RuleB_mod
import PyProof.Rows.RuleB_floordiv
import PyProof.Rows.SeqMore
import PyProof.Rows.TupTab
import PyProof.P3In
import PyProof.EqLayable
import PyProof.Rows.SortWalk
import PyProof.SumAny
import PyProof.MinMaxWalk
import PyProof.WalkInts
import PyProof.MaxThree
import PyProof.SeqI3
import PyProof.ConsumeWalk
import PyProof.TupleOfSeq
import PyProof.TupleCall
import PyProof.ListCopy
import PyProof.ListRange
import PyProof.Conv_int_bool
import PyProof.Rows.RuleN_abs
import PyProof.Rows.RuleN_isinstance
import KE.KDictOf
import PyProof.DictUpdate
import PyProof.IsiTupleOf
import PyProof.IsInstanceH
import PyProof.ListIndexNeg
import PyProof.Rows.TupMore
import PyProof.Rows.StrTemp
import PyProof.ZipIter
import PyProof.WalksEnum
import PyProof.EnumMake
import PyProof.RangeFor
import PyProof.CompFree
import PyProof.PlainList
import PyProof.ForAppend
import PyProof.Rows.Chain
import PyProof.Rows.ChunkLeaf
import PyProof.DictStraight
import PyProof.DictTable
import PyProof.RulesAssignMore
import PyProof.Raises
import PyProof.ObjNew
import PyProof.NsMap
import Wide.All
import OpenK.KLine
import PySem.Challenge.RW_uf010011_10
set_option linter.unusedVariables false
set_option linter.unusedSimpArgs false
set_option tactic.hygienic false
set_option compiler.extract_closed false
set_option bootstrap.genMatcherCode false
set_option genSizeOf false
set_option genSizeOfSpec false
set_option genInjectivity false
set_option backward.match.sparseCases false
open String renaming reduceBEq->Qa
open PySem.Str renaming ofString->Qb
open List renaming range->Qc, length_map->Qd, mem_map->Ql, mem_range->Qg, mem_filter->Qi, map_cons->Qo, mem_append_right->Qe, mem_singleton->Qk, mem_append->Qr, mem_cons->Qx, map_map->QB, mem_append_left->Qj, getElem?_eq_getElem->Qf, length_range->Qt, nodup_append->Qv, getElem?_map->Qw, nodup_cons->Qz, all_eq_true->Qy, map_congr_left->Qs, map_append->QF, sum_cons->QK, mem_of_getElem?->QE, append_nil->QO, length_append->QJ, map->KM, getElem?_eq_some_iff->QI, not_mem_nil->Ki, of_mem_zip->Kr, nodup_iff_pairwise_ne->QT, mem_cons_self->Kq, filter->Wd, mem_cons_of_mem->Kl, nil_append->KN, sum->WU, nodup_range->KC, map_nil->Wm, getElem_mem->KQ, take_length->KR, any_eq_true->KS, append_assoc->KI, filter_cons_of_pos->Kt, filter_cons_of_neg->Ku, sublist_cons_self->Kv, length_cons->Wi, contains_cons->KZ, getElem_map->Wj, getElem_range->Wa, drop->Yz, length_nil->WD, getElem?_set->Wo, sum_append->WE, getElem_of_mem->Wh, getElem?_eq_none->KX, pairwise_map->Wp, length_filter_le->KY, ext_getElem?->WI, getElem?_range->Wu, any_cons->Yn, lookup->Yx, zip_cons_cons->Wz, length->Yy, ext_getElem->WM, getElem?_of_mem->Wr, map_eq_nil_iff->Wv, take_of_length_le->WF, length_eq_zero_iff->Wx, contains_nil->Yj, lookup_cons->Yr, countP_cons->Ys, length_singleton->WK, length_set->Yv, getElem?_append_left->Wq, filter_filter->WZ, countP_append->Yb, filter_eq_nil_iff->Ym, exists_cons_of_ne_nil->WN, getElem?_zip_eq_some->WR, contains_eq_mem->Yu, getElem?_eq_none_iff->WT, getElem?_append_right->WO
open Nat renaming le_refl->QA, le_trans->QD, le_of_eq->QS, zero_le->QY, not_lt->Kd, le_add_right->QV, lt_succ_self->QW, add_right_comm->QP, ne_of_lt->Kn, lt_of_lt_of_le->QX, add_le_add->Kg, ne_of_gt->KL, lt_irrefl->KG, le_of_succ_le->Kj, lt_of_le_of_lt->Ko, le_of_lt->KW, add_le_add_right->Kk, succ_le_succ->KP, zero_add->Ww, le_succ->WG, add_le_add_left->KJ, lt_succ_of_lt->KU, not_lt_zero->Wn, succ_pos->Ye, mul_le_mul->Yi, le_of_ble_eq_true->WJ, mul_le_mul_left->WP, succ_lt_succ->Yp, lt_add_right->Yq, le_succ_of_le->Yk, min_le_right->Yt
open Bool renaming and_eq_true_iff->Qh, false_ne_true->QC, and_eq_true->QL, not_eq_true'->QQ, eq_iff_iff->Kz, true_and->Wg, and_true->WA, false_eq_true->Wy, or_eq_true->WW
open PySem.Heap renaming lt_size->QH, get?_push_of_some->Qm, get?_push_size->QG, size_push->Kh, SameBut->Ky, get?_update_self->Ka, ExtBut->Wl, get?_update_other->Km, get?_none_of_le->WL
open Option renaming bind_eq_some_iff->Qn, map_eq_some_iff->Qu, bind_some->Kw, map->Wt, isNone_iff_eq_none->Ke, map_some->Wc, isSome_iff_exists->WX
open Int renaming le_trans->QN, ofNat_lt->QZ, le_refl->Kc, add_zero->Kf, natCast_nonneg->QU, ofNat_le->Ks, not_lt->KF, add_comm->Kx, ofNat_inj->KH, add_assoc->KT, zero_add->We, toNat_lt->Wf, lt_of_lt_of_le->KB, sub_eq_add_neg->KO, sub_sub->WV, not_le->Yl, sub_zero->Yc, le_antisymm->WC, le_of_lt->Yd, ne_of_gt->Yg, add_sub_assoc->WH, add_nonneg->Yh, sub_self->Yw, le_add_of_nonneg_right->KV, sub_nonneg_of_le->Ws, sub_sub_self->Yo, add_sub_cancel->WY, toNat_of_nonneg->WQ
open Array renaming getElem?_eq_getElem->KK, getElem?_eq_some_iff->KD, getElem?_eq_none->Wk, getElem?_setIfInBounds_self_of_lt->Wb
open PySem renaming wpAny_bind->YA, wpAny_pure->YB, wpAny_mono->YC, wpAny_field->YD, wpAny_holding->YE, wpAny_standAt->YF, wpAny_call_entry->YG
set_option Elab.async false
set_option maxRecDepth 100000
set_option maxHeartbeats 0
set_option autoImplicit true
set_option relaxedAutoImplicit true
open Option renaming some->Ja, none->Jb
open Bool renaming true->Jc, false->Jd
open PySem
open PySem renaming Shared->Je,Value->Jf,Addr->Jg,wpAny->Jh,Heap->Ji,Around->Jj,Scope->Jk,Expr->Jl,World->Jm,Program->Jn,Stmt->Jo,Obj->Jp,Str->Jq,FuncData->Jr,Env->Js,model->Jt,pyNext->Ju,truthy->Jv,mem_of_lookup->Jw,eval->Jx,rawInt->Jy,wpAny_loadPart_at->Jz,call_isinstance->JA,mainGlobals->JB,wpAny_newObj_type->JC,wpAny_callSpecial?_slot->JD,sysModules->JE,starEach->JF,excClassObj->JG,wpAny_setField->JH,behindInMarks->JI,wpAny_dictEntries->JJ,wpAny_isInstance->JK,wpAny_Constant_none->JL,sizeLine->JM,wpAny_attempt->JN,wpAny_execs_nil->JO,entryOfKey->JP,assignEach->JQ,DictEntry->JR,cellsFrom->JS,isSubtype_type->JT,foldedSetIterable->JU,swapsWith->JV,setFlight->JW,wpAny_typeNameOfWhole_keyiter->JX,wpAny_of_eq->JY,sizeLine_eq->JZ,NameKind->J0,backTo->J1,wpAny_isTrue_BoolOp->J2,wpAny_rule->J3,isSubtype_stop->J4,wpAny_seqItems->J5,typeLookup->J6,recursionLimit->J7,OwnTail->J8,spliced->J9,keywordEach->YH,ExceptHandler->YI,wpAny_execs_cons->YJ,wpAny_Name->YK,wpAny_allTrue_And_cons->YL,wpAny_call->YM,size_of_entries->YN,isinstance_true->YO,wpAny_notOrdered_dict->YQ,wpAny_allTrue_Or_cons->YR,wpAny_isTrue_Compare1->YS,pyIter->YT,firstArgMember->YU,PyData->YV,wpAny_loadName_local->YW,IsPair->YX,compareOp->YY,isSubtype->YZ,wpAny_isSubtype_exc->Y0,atKey->Y1,wpAny_setSeqItemAt->Y2,bootBuiltins->Y3,backToKw->Y4,bindArgs->Y5,plainObj_wpAny_Assign_Attribute->Y6,checkBuiltinCall->Y7,Pos->Y8,treeTable->Y9,pushCells->Ua,isTrue->Ub,handedOut->Uc
noncomputable section
namespace Vl.Internal
theorem Ud{p:Prop}[Decidable p](h:p):decide p=Jc:=decide_eq_true h
theorem Ue{p:Prop}[Decidable p](h:¬p):decide p=Jd:=decide_eq_false h
theorem Uf{p:Prop}[Decidable p](h:decide p=Jc):p:=of_decide_eq_true h
theorem Ug{c:Prop}{h:Decidable c}(k:¬c){α:Sort _}{t e:α}:ite c t e=e:=if_neg k
theorem Uh{c:Prop}{h:Decidable c}(k:c){α:Sort _}{t e:α}:ite c t e=t:=if_pos k
theorem Ui{α:Type _}[BEq α][LawfulBEq α]{a b:α}(h:(a==b)=Jc):a=b:=eq_of_beq h
theorem Uj{p:Prop}[Decidable p]:(decide p=Jc)=p:=decide_eq_true_eq
theorem Uk{α:Sort _}{β:Sort _}{a b:α}(f:α->β)(h:a=b):f a=f b:=congrArg f h
inductive X2{α β:Type}(P:α->β->Prop):Prop
 |mk (a:α) (b:β) (h:P a b):X2 P
inductive X3{α β γ:Type}(P:α->β->γ->Prop):Prop
 |mk (a:α) (b:β) (c:γ) (h:P a b c):X3 P
inductive X4{α β γ δ:Type}(P:α->β->γ->δ->Prop):Prop
 |mk (a:α) (b:β) (c:γ) (d:δ) (h:P a b c d):X4 P
inductive X5{α β γ δ ε:Type}(P:α->β->γ->δ->ε->Prop):Prop
 |mk (a:α) (b:β) (c:γ) (d:δ) (e:ε) (h:P a b c d e):X5 P
inductive X6{α β γ δ ε ζ:Type}(P:α->β->γ->δ->ε->ζ->Prop):Prop
 |mk (a:α) (b:β) (c:γ) (d:δ) (e:ε) (f:ζ) (h:P a b c d e f):X6 P
inductive A3(a b c:Prop):Prop
 |mk (p:a) (q:b) (r:c):A3 a b c
inductive A4(a b c d:Prop):Prop
 |mk (p:a) (q:b) (r:c) (s:d):A4 a b c d
inductive A5(a b c d e:Prop):Prop
 |mk (p:a) (q:b) (r:c) (s:d) (t:e):A5 a b c d e
inductive A6(a b c d e f:Prop):Prop
 |mk (p:a) (q:b) (r:c) (s:d) (t:e) (u:f):A6 a b c d e f
inductive A8(a b c d e f g h:Prop):Prop
 |mk (p:a) (q:b) (r:c) (s:d) (t:e) (u:f) (v:g) (w:h):A8 a b c d e f g h
inductive A9(a b c d e f g h i:Prop):Prop
 |mk (p:a) (q:b) (r:c) (s:d) (t:e) (u:f) (v:g) (w:h) (x:i):A9 a b c d e f g h i
theorem ns{L:Type _}{a:L}{P:Prop}(h:Jb=Ja a):P:=by cases h
theorem sn{L:Type _}{a:L}{P:Prop}(h:Ja a=Jb):P:=by cases h
theorem bQ{L:Type _}{a:L}{P:Prop}(h:a∈([]:List L)):P:=by cases h
theorem ft{P:Prop}(h:Jd=Jc):P:=by cases h
theorem tf{P:Prop}(h:Jc=Jd):P:=by cases h
theorem sj{L:Type _}{a b:L}(h:Ja a=Ja b):a=b:=Option.some.inj h
theorem wn{L:Type}{M:Model}{A:Jj}{c:Prop}[i:Decidable c]{a b:Sem L}{Q:L->Je->Prop}{E:Jf->Je->Prop}{s:Je}(C:¬c)(h:Jh M A b Q E s):Jh M A (if c then a else b) Q E s:=by rw[Ug C];exact h
theorem wy{L:Type}{M:Model}{A:Jj}{c:Prop}[i:Decidable c]{a b:Sem L}{Q:L->Je->Prop}{E:Jf->Je->Prop}{s:Je}(C:c)(h:Jh M A a Q E s):Jh M A (if c then a else b) Q E s:=by rw[Uh C];exact h
theorem zle{a b c:Nat}(h:a<=b)(k:b<=c):a<=c:=QD h k
theorem zl{a b c:Nat}(h:a<=b)(k:b<c):a<c:=Ko h k
theorem zll{a b c:Nat}(h:a<b)(k:b<=c):a<c:=QX h k
theorem zq{a b c:Nat}(h:a<b)(k:b=c):a<c:=Nat.lt_of_lt_of_eq h k
theorem zs(h:a<b+1):a<=b:=Nat.le_of_lt_succ h
theorem zb1(h:a<=b)(k:Nat.ble (b+1) c=Jc):a<c:=Ko h<|WJ k
theorem zb2(h:a<=b)(k:Nat.ble b c=Jc):a<=c:=QD h<|WJ k
theorem zim(n:Nat): -1000000<(n:Int):=KB (by decide)<|QU n
theorem zip'{a b:Nat}(h:a<=b)(k:b<=1000000:=by decide):(a:Int)<=1000000:=Ks.mpr<|QD h k
theorem zk1{a b c d e:Nat}(i:a<=8)(N:b<=8)(p:c+d=17)(h:e<=a+b)(w:(d:Int)<e):c=c-1+1:=by
 cases c with
 |zero=>exact absurd (QX (QZ.mp w)<|QD h (Kg i N))<|by rw[show d=17 from(Ww d).symm.trans p];decide
 |succ c=>rfl
theorem ztn{x a y:Int}(h:x>0)(k:1<=a)(e:y=x-a):y.toNat<x.toNat:=(Int.toNat_lt_toNat h).mpr (by rw[e];exact Int.sub_lt_self x<|KB (by decide) k)
theorem zg1{a b c:Int}(h:a-b=0-c):a+c=b:=by rw[Int.zero_sub] at h;rw[<-Int.sub_neg,<-h,Yo]
theorem zg2{a b c:Int}(h:a-b=c-0):a=b+c:=by rw[Yc] at h;rw[<-h,Kx,Int.sub_add_cancel]
theorem zg3{r n x a:Int}(e:n=x+a)(k:1<=a)(h:n<=r):(r-n).toNat<(r-x).toNat:=ztn (Int.sub_pos_of_lt<|KB (e▸Int.lt_add_of_pos_right x (KB (by decide) k)) h) k<|by rw[e,WV]
theorem zg4(h:a+ -x=b+0):x=a-b:=by rw[Kf] at h;rw[<-h,<-KO,Yo]
theorem zh1(h:y<8):(8*x+y) / 8=x:=by rw[Nat.mul_add_div (by decide),Nat.div_eq_of_lt h,Nat.add_zero]
theorem zh2(h:y<8):(8*x+y) % 8=y:=by rw[Nat.mul_add_mod,Nat.mod_eq_of_lt h]
theorem zh3(h:x<8)(k:y<8):8*x+y<64:=QX (Nat.add_lt_add_left k<|8*x)<|WP 8 (Nat.succ_le_of_lt h)
theorem zr1{a b c d:Int}(h:a+b=c):a+d+(b-d)=c:=by rw[KT,<-WH,Kx d b,WY];exact h
theorem zr2{a b c:Int}(h:a+b=c):a+0+b=c:=by rw[Kf];exact h
theorem zr3(a b c:Int):a-(a-b)+c-b=c:=by rw[Yo,Kx,WY]
theorem zr4(h:a+b+2<c):a+1+b<c:=Ko (QD (QS<|QP a 1 b)<|WG _) h
theorem zr5(a b:Int):a+(b-a)=b:=by rw[Kx,Int.sub_add_cancel]
theorem zr6(h:a+30*(b+1)+300<c):a+3+30*b+300<c:=Ko (Kk (by rw[QP];exact KJ (by decide:3<=30)<|a+30*b) 300) h
theorem zr7{a b c:Int}(h:0<=a)(k:0<=b):0<=c-(c-b)+a:=by rw[Yo];exact Yh k h
theorem zr8(a b c d:Int):a+b+(c+d)=a+c+(b+d):=by rw[KT,Int.add_left_comm b,<-KT]
theorem zr9{a b:Int}(h:a>0):0<b+a-b:=by rw[Kx,WY];exact h
theorem zr10(a b c:Int):a+b+c=a+(c+b*1):=by rw[Int.mul_one,KT,Kx b]
theorem zr11{a b c:Int}(h:0<=a)(k:¬a>0)(e:b+a=c):c=b:=by rw[<-e,WC (KF.mp k) h,Kf]
theorem zr12(a b c:Int):a+b+(c+0)=a+c+b:=by rw[Kf,Int.add_right_comm]
theorem zr13{a b c d:Int}(h:a+b=c):a+(d+0)+(b-d)=c:=by rw[Kf];exact zr1 h
theorem zr14(a b c d:Int):a+b-(c+d)=a-c+(b-d):=by rw[<-WV,WH,KO,KO,KO,KO];exact(Uk (· + -d) (by rw[KT,Kx b,<-KT]:a+(b+ -c)=a+ -c+b)).trans (KT _ _ _)
theorem zr15{a b c:Int}(h:a+b=c)(k:b=0):a=c:=by rw[<-h,k,Kf]
theorem zmn{a b c d:Nat}(h:a+100<b)(k:c<=50):a+min c d<b:=Ko (KJ (QD (Nat.min_le_left _ _)<|QD k (by decide)) _) h
theorem zmn2{a b c d:Nat}(h:a+100<b)(k:c<=50):a+min c d+2<b:=Ko (Kg (KJ (QD (Nat.min_le_left c d) k) a) (by decide:2<=50)) h
theorem zpr(h:a<b):b=b-1+1:=(Nat.sub_add_cancel<|Ko (QY _) h).symm
theorem zng{a n:Int}(h:¬0<=a):a+n<n:=by have:=Int.add_lt_add_right (Yl.mp h) n;rw[We] at this;exact this
theorem zi1{n:Nat}{k:Int}(h:n<=10000000)(b:k<n):k<2^63:=KB b<|QN (Ks.mpr h) (by decide)
theorem zi2{n:Nat}{k:Int}(h:n<=10000000)(b: -(n:Int)<=k): -(2^63)<=k:=QN (Int.neg_le_neg<|QN (Ks.mpr h) (by decide:((10000000:Nat):Int)<=2^63)) b
theorem zi3{n:Nat}(h:n<=1000000):(n:Int)<2^63:=Int.lt_of_le_of_lt (Ks.mpr h)<|by decide
theorem zw1{a b c:Int}(h:a-b=c-1):a+1-b=c-0:=by rw[Kx,WH,h,Kx,Int.sub_add_cancel,Yc]
theorem zw2{a b c:Int}(h:a-b=c):a+0-b=c:=by rw[Kf];exact h
theorem zw3{a b c:Int}(h:a-b=c-0):a-(b+1)=c-1:=by rw[<-WV,h,Yc]
theorem zw4{a b c:Int}(h:a-b=c):a-(b+0)=c:=by rw[Kf];exact h
theorem zw5{a b c:Int}(h:a-b=0-c):a+1-b=1-c:=by rw[Kx,WH,h,<-WH,Kf]
theorem zw7{a b c:Int}(h:a-b=1-c):a-(b+1)=0-c:=by rw[<-WV,h,WV,Kx,<-WV,Yw]
theorem zrs(n:Int):(if 0<n then n-0 else 0)=(n.toNat:Int):=by
 by_cases h:0<n
 ·rw[Uh h,Yc,WQ (Yd h)]
 ·rw[Ug h,Int.toNat_of_nonpos (KF.mp h)];rfl
theorem zls{a b:Nat}(h:a+1=b):¬ (a:Int)<(b:Int)-1:=by rw[<-h];exact λq=>Int.lt_irrefl _<|KB q (Int.le_of_eq<|WY (a:Int) 1)
set_option genInjectivity true in
inductive KA where
 |n(i:Int)
 |t(s:String)
 deriving DecidableEq,Inhabited
theorem ofString_inj(h:Qb x=Qb y):x=y:=by
 rw[Str.ofString_eq_toList,Str.ofString_eq_toList] at h;have N:x.toList.map Char.toNat=y.toList.map Char.toNat:=by
  have:=Uk (λs:Jq=>s.cps.toList) h
  simpa using this
 have i:Function.Injective Char.toNat:=λa b e=>by
  have:a.val=b.val:=UInt32.toNat_inj.mp e;exact Char.ext this
 have p:x.toList=y.toList:=by
  have:∀ (l m:List Char),l.map Char.toNat=m.map Char.toNat->l=m:=by
   intro l
   induction l with
   |nil=>intro m e;induction m using List.casesOn with|nil=>rfl|cons=>cases e
   |cons a r W=>intro m e;induction m using List.casesOn with|nil=>cases e|cons b q=>simp only[Qo,List.cons.injEq] at e;rw[i e.1,W q e.2]
  exact this _ _ N
 exact String.toList_inj.mp p
noncomputable def kaIs:KA->Jf->Bool
 | .n i,v=>Value.isInt i v
 | .t s,v=>Value.isStrOf (Qb s) v
theorem gp(h:kaIs (.n i) v=Jc):∃t,v= .int i t:=Value.isInt_shape h
theorem gq(h:kaIs (.t s) v=Jc):∃t,v= .str (Qb s) t:=Value.isStrOf_shape h
theorem vj(i:Int)(t:Tok):kaIs (.n i) (.int i t)=Jc:=by simp[kaIs,Value.isInt]
theorem sU(s:String)(t:Tok):kaIs (.t s) (.str (Qb s) t)=Jc:=by simp[kaIs,Value.isStrOf]
def mk(prog:Jn)(w:Jm):KeyKind prog w KA where
 is:=kaIs
 hash:=λk=>match k with
  | .n i=>hashInt i
  | .t s=>hashStr w<|Qb s
 inj:=λv a b T R=>by
  induction a with
  |n i=>
   obtain⟨t,rfl⟩:=gp T
   induction b with
   |n j=>obtain⟨u,e⟩:=gp R;cases e;rfl
   |t s=>obtain⟨u,e⟩:=gq R;cases e
  |t s=>
   obtain⟨t,rfl⟩:=gq T
   induction b with
   |n j=>obtain⟨u,e⟩:=gp R;cases e
   |t G=>obtain⟨u,e⟩:=gq R;injection e with e;rw[ofString_inj e]
 byValue:=λk v h=>by
  induction k with
  |n i=>obtain⟨t,rfl⟩:=gp h;rfl
  |t s=>obtain⟨t,rfl⟩:=gq h;rfl
 pyHash:=λ{A E s k v Q} hv h=>by
  induction k with
  |n i=>obtain⟨t,rfl⟩:=gp hv;exact wpAny_pyHash_int h
  |t x=>obtain⟨t,rfl⟩:=gq hv;exact wpAny_pyHash_str h
 eqBool:=λ{A E s a b u v Q} p hv h=>by
  induction a with
  |n i=>
   obtain⟨t,rfl⟩:=gp p
   induction b with
   |n j=>
    obtain⟨g,rfl⟩:=gp hv;refine wpAny_eqBool_int ?_;have e:(i==j)=decide (KA.n i=KA.n j):=by rw[Kz];simp
    rw[e];exact h
   |t y=>obtain⟨g,rfl⟩:=gq hv;exact SeqAt.EqAt.int_str i t _ g prog w E Q<|by rw[Ue (λe=>by cases e)] at h;exact h
  |t x=>
   obtain⟨t,rfl⟩:=gq p
   induction b with
   |n j=>obtain⟨g,rfl⟩:=gp hv;exact SeqAt.EqAt.str_int _ t j g prog w E Q<|by rw[Ue (λe=>by cases e)] at h;exact h
   |t y=>
    obtain⟨g,rfl⟩:=gq hv;refine wpAny_eqBool_str ?_;have e:decide (Qb x=Qb y)=decide (KA.t x=KA.t y):=decide_eq_decide.mpr ⟨λe=>by rw[ofString_inj e],λe=>by cases e;rfl⟩;rw[e];exact h
 «strs»:=λk x t v h=>by
  induction k with
  |n i=>obtain⟨g,e⟩:=gp h;cases e
  |t s=>obtain⟨g,e⟩:=gq h;injection e with e;subst e;rcases v with⟨⟩<;>rfl
abbrev tk(prog:Jn)(w:Jm):HeapKind prog w (List KA):=tupleKind<|mk prog w
section
variable{prog:Jn}{w:Jm}{K:Type}[DecidableEq K]{knd:HeapKind prog w K}{A:Jj}{E:Jf->Je->Prop}{s:Je}
theorem iR{d a:Jg}{xs:List (K×Jg×Jf)}{Q:Jf->Je->Prop}(u:knd.room A)(h:knd.is s.heap k a)(m:s.heap.DictOfH knd d xs)
  (N:∀p,Y1 xs k=Ja p->Q p.2 {s with toks:=s.toks+knd.draws k})
  (Y:Y1 xs k=Jb->∀S,S.DictOfH knd d (xs++[(k,a,v)])->Ky d s.heap S->Q v {s with heap:=S,toks:=s.toks+knd.draws k})
  (hsz:xs.length<=JM):Jh (Jt prog w) A (dictSetDefault d (.ref a) v) Q E s:=by
 obtain⟨o,U,I,T,c,q,O,i,g⟩:=m;unfold dictSetDefault
 try with_reducible refine YE ?_
 refine YA<|knd.pyHash u h ?_;refine YA<|wpAny_dictFind_heap (s:={s with toks:=s.toks+knd.draws k}) u h T q O i g ?_ ?_
 ·intro n;have t:k∉xs.map (·.1):=not_mem_keys_of_get n;refine YA (J3 (YA (wpAny_updateDictKeys (hz:=by have e:=YN O;exact zle (QS e) hsz) (s:={s with toks:=s.toks+knd.draws k}) T q (YB (Y (atKey_none_of_get n) _ ⟨_,_,I+1,Ka _ T (Obj.isFreed_of_dict (Obj.data_mapDictKeys q _)),
   c.mapDictKeys _,Obj.data_mapDictKeys q _,?_,?_,?_⟩ (Ky.update ..))))))
  ·simp[O,JP]
  ·intro x hx
   rcases Qr.mp hx with hx|hx
   ·exact knd.keeps (i x hx) T q<|Ky.update ..
   ·simp only[Qk] at hx;subst hx;exact knd.keeps h T q<|Ky.update ..
  ·rw[QF,Qv];refine⟨g,by simp,?_⟩;intro x hx y W;simp only[Qo,Wm,Qk] at W;subst W;exact λe=>t<|e▸hx
 ·intro j p H;refine YA<|wpAny_dictEntries (s:={s with toks:=s.toks+knd.draws k}) T q ?_;rw[entry_at O j,H];exact YA<|wpAny_rule (YB<|N p (atKey_of_get g H))
theorem kv{d a:Jg}{xs:List (K×Jg×Jf)}{Q:Jf->Je->Prop}(u:knd.room A.in1)(h:knd.is s.heap k a)(q:(d==JE)=Jd)(C:s.heap.DictOfH knd d xs)
  (N:∀p,Y1 xs k=Ja p->Q p.2 {s with toks:=s.toks+knd.draws k})
  (Y:Y1 xs k=Jb->∀S,S.DictOfH knd d (xs++[(k,a,v)])->Ky d s.heap S->Q v {s with heap:=S,toks:=s.toks+knd.draws k})
  (hsz:xs.length<=JM):Jh (Jt prog w) A (call (.builtin "dict.setdefault") [.ref d,.ref a,v]) Q E s:=by
 refine YG F.slot_dict_setdefault C.typeIs F.entry_dict_setdefault ?_<|F.args_dict_setdefault_3 _ _ _;unfold Builtin.«dict.setdefault»;refine YA ?_;unfold Builtin.Dict.keyAndDefault;refine YA<|wpAny_notOrdered_dict C.typeIs ?_;show Jh _ _ (pure (d,Value.ref a,Ja v)) _ _ s;refine YB ?_;refine wn (c:=(d==JE)=Jc) (by rw[q];exact QC) ?_;exact YA<|iR u h C (λp D=>YB ⟨_,rfl,N p D⟩) (λn S m H=>YB ⟨_,rfl,Y n S m H⟩) hsz
def RawD(h:Ji)(d:Jg)(es:Array JR)(ep:Nat):Prop:=∃o,h.get? d=Ja o/\o.ExactDict/\o.data= .dict es ep
theorem RawD.typeIs{d:Jg}(x:RawD s.heap d es ep):s.TypeIs (.ref d) "dict":=by obtain⟨o,T,h,o0⟩:=x;exact⟨o,T,h.1⟩
theorem RawD.at{h S:Ji}{d:Jg}(x:RawD h d es ep)(k:∀o,h.get? d=Ja o->S.get? d=Ja o):RawD S d es ep:=by obtain⟨o,T,r⟩:=x;exact⟨o,k o T,r⟩
theorem qk{d:Jg}{es:Array JR}{Q:Jf->Je->Prop}(v:(d==JE)=Jd)(m:RawD s.heap d es ep)
  (X:Q (.ref s.heap.objs.size) {s with heap:=s.heap.push {cls:= .type "dict_keyiterator",data:= .fields #[.ref d,.int 0 0,.int es.size 0,.int ep 0]}}):
  Jh (Jt prog w) A (YT<|.ref d) Q E s:=by
 obtain⟨o,a,c,h⟩:=id m;have T:s.TypeIs (.ref d) "dict":=m.typeIs;refine wpAny_pyIter_slot T F.slot_dict_iter<|YG F.slot_dict_iter T F.entry_dict_iter ?_ (F.args_dict_iter_1 _);unfold Builtin.«dict.__iter__»;refine YA ?_;unfold Builtin.Dict.dictSlotNone;refine YA<|wpAny_notOrdered_dict T ?_;show Jh _ _ (pure<|Value.ref d) _ _ s;refine YB ?_;show Jh _ _ (Builtin.Dict.showsAll d>>=_) _ _ s;unfold Builtin.Dict.showsAll;refine YA<|wn (by rw[v];exact QC) (YB ?_);refine YA<|wpAny_dictEntries a h ?_;refine YA<|wpAny_dictEpoch a h ?_;refine YA<|wpAny_newObj_type (YB ⟨_,rfl,"dict_keyiterator",_,⟨_,QG _ rfl,rfl⟩,F.slot_dict_keyiterator_next.lookup,?_⟩)
 simpa [Jy] using X
theorem lH{t d:Jg}{es:Array JR}{Q:Option Jf->Je->Prop}(U:A.handled=Jb)(h:s.heap.IsKeyIter t d i es.size ep)(L:RawD s.heap d es ep)
  (q:∀e,es[i]? =Ja e->∀S,S.IsKeyIter t d (i+1) es.size ep->Ky t s.heap S->Q (Ja e.key) {s with heap:=S})
  (p:es[i]? =Jb->∀S,Wl t s.heap S->Q Jb {s with heap:=S}):Jh (Jt prog w) A (Ju<|.ref t) Q E s:=by
 obtain⟨o,x,C,v⟩:=id h;obtain⟨n,Y,W,I⟩:=id L;unfold Ju;refine YA (JN (JD (name:=Qb "__next__") h.typeIs F.slot_dict_keyiterator_next
  (YG F.slot_dict_keyiterator_next h.typeIs F.entry_dict_keyiterator_next ?_ (F.args_dict_keyiterator_next_1 _))))
 refine YA<|YB ?_;refine YA ?_;refine YA ?_;refine YA<|wpAny_typeNameOfWhole_keyiter h.typeIs (YB ?_);refine YA<|wpAny_fieldsOf x v ?_;refine wn (c:=(Value.ref d==Value.none)=Jc) QC ?_;refine YA<|YB ?_;refine YA<|wpAny_dictEntries Y I ?_;refine wn (c:=((es.size:Int) !=es.size)=Jc) (by simp) ?_;refine YA<|YB ?_;refine YA<|wpAny_dictEpoch Y I ?_;refine wn (c:=((ep:Int) !=ep)=Jc) (by simp) ?_;refine YB ?_;by_cases N:i<es.size
 ·have u:(if(i:Int)<0 then Jb else es[(i:Int).toNat]?)=Ja es[i]:=(Ug<|KF.mpr (QU i)).trans (KK N);dsimp only;rw[u];refine YA ?_;refine YA<|wpAny_typeNameOfWhole_keyiter h.typeIs (YB ?_);refine YA<|wpAny_isOneOf_keyiter h.typeIs ?_;show Jh _ _ (setField (.ref t) 1 (Jy<|(i:Int)+1)>>=_) _ _ s;refine YA<|wpAny_setField x v (by simp) ?_;have l:(s.heap.update t (Obj.mapFields (·.setIfInBounds 1 (Jy<|(i:Int)+1)))).IsKeyIter t d (i+1) es.size ep:=
   ⟨_,Ka _ x<|Obj.isFreed_of_fields (Obj.data_mapFields v _),(Obj.cls_mapFields ..).trans C,by rw[Obj.data_mapFields v];simp[Jy]⟩
  refine YA<|YE ?_;refine YA (wpAny_isOneOf_keyiter (s:={s with heap:=s.heap.update t (Obj.mapFields (·.setIfInBounds 1 (Jy<|(i:Int)+1)))}) l.typeIs ?_);show Jh _ _ (pure es[i].key) _ _ _;exact YB<|YB ⟨_,rfl,YB<|q _ (KK N) _ l (Ky.update ..)⟩
 ·have g:es.size<=i:=Kd.mp N;have u:(if(i:Int)<0 then Jb else es[(i:Int).toNat]?)=Jb:=(Ug<|KF.mpr (QU i)).trans (Wk g);dsimp only;rw[u];refine YA ?_;refine YA<|wpAny_typeNameOfWhole_keyiter h.typeIs (YB ?_);refine YA<|wpAny_setField (i:=0) x v (by simp) ?_;refine YA ?_;unfold newExc newTuple;refine YA<|wpAny_newObj_type ?_ (by size_fits);refine YA (m:=YU _ _)<|wpAny_of_eq (a:=Value.none) (by first|rfl|(simp only[YU];rfl)) ?_;refine JC ?_ (by size_fits);unfold raiseNew;refine YA<|wpAny_handled ?_;rw[show A.in1.handled=Jb from U];refine YA<|YB (wpAny_throw ?_);refine YA<|wpAny_isInstance (T:="StopIteration") (b:=Jc) ⟨_,QG _ rfl,rfl⟩ J4 ?_;exact YB<|p (Wk g) _ (((Ky.update ..).extBut.push _).push _)
theorem sL(U:A.handled=Jb)(g d:Jg)(n:d≠g)(es:Array JR)(ep:Nat):
  Walks prog w A g [g,d] [g] es.size (λi v=>∃e,es[i]? =Ja e/\v=e.key) (λi h=>h.IsKeyIter g d i es.size ep/\RawD h d es ep) where
 sub:=λb R=>by simp at R;simp[R]
 frame:=λo0 o0 o0 t k=>⟨by obtain⟨o,T,r⟩:=t.1;exact⟨o,k g (by simp) o T,r⟩,t.2.at λo e=>k d (by simp) o e⟩
 item:=λi s Q E V t X=>lH U t.1 t.2 (λe O S j H=>X _ S s.toks ⟨e,O,rfl⟩ ⟨j,t.2.at λo x=>H.extBut d o n x⟩ λb o R x=>H.extBut b o (λh=>R<|by simp[h]) x)
  (λq=>by exact sn<|(KK V).symm.trans q)
 done:=λs Q E t X=>lH U t.1 t.2 (λe O=>by simp at O) λo0 S H=>X S s.toks λb o R x=>H b o (λh=>R<|by simp[h]) x
 self:=λo0 o0 o0 o0 t X=>by
  obtain⟨o,T,c,W⟩:=t.1;exact wpAny_pyIter_slot ⟨o,T,c⟩ F.slot_dict_keyiterator_iter<|YG F.slot_dict_keyiterator_iter ⟨o,T,c⟩ F.entry_dict_keyiterator_iter (YB ⟨_,rfl,_,_,⟨o,T,c⟩,F.slot_dict_keyiterator_next.lookup,X⟩) (F.args_dict_keyiterator_iter_1 _)
theorem wx{d:Jg}{es:Array JR}(l:(d==JE)=Jd):W.KdlSrc prog w "dict" d d es.size (λi v=>∃e,es[i]? =Ja e/\v=e.key) (λh=>RawD h d es ep) where
 type:=λo0 m=>m.typeIs
 there:=λo0 m=>by obtain⟨o,T,o0⟩:=m;exact⟨QH T,QH T⟩
 keep:=λo0 o0 m k=>m.at λo e=>k d (.inl rfl) o e
 notList:=by decide
 notTuple:=by decide
 hint:=λo0 o0 o0 o0 m q=>W.kdl_hint_dict m.typeIs q
 iter:=λo0 o0 U m=>⟨_,_,(λo0 o0 q=>qk l m q),sL U _ d (by obtain⟨o,T,o0⟩:=m;exact Kn<|QH T) es ep,⟨⟨_,QG _ rfl,rfl,rfl⟩,m.at λo e=>Qm _ e⟩⟩
end
def HOK(A:Jj)(h:Ji):Prop:=A.handled=Jb\/X3 λa o v=>A4 (A.handled=Ja (.ref a)) (h.get? a=Ja o) (o.data= .fields v)<|v[2]? =Ja .none
theorem HOK.at{h S:Ji}(x:HOK A h)(k:∀a o vs,h.get? a=Ja o->o.data= .fields vs->vs[2]? =Ja .none->X2 λo' v=>A3 (S.get? a=Ja o') (o'.data= .fields v) (v[2]? =Ja .none)):HOK A S:=
 x.imp id λz=>by obtain⟨a,o,vs,N,p,J,O⟩:=z;obtain⟨o',v,c,Z,q⟩:=k a o vs p J O;exact⟨a,o',v,N,c,Z,q⟩
theorem HOK.keep{h S:Ji}(x:HOK A h)(k:∀b o,h.get? b=Ja o->S.get? b=Ja o):HOK A S:=x.at λa o v N p J=>⟨o,v,k a o N,p,J⟩
section
variable{prog:Jn}{w:Jm}{A:Jj}{E:Jf->Je->Prop}{s:Je}
theorem lP:entryFor table "proto.unchain"=Ja Builtin.«proto.unchain»:=entryFor_of_tree<|by kernel_rfl
theorem xe{α:Type}{Q:α->Je->Prop}(hh:HOK A s.heap)
  (k:∀h' e o,(∀b o,s.heap.get? b=Ja o->h'.get? b=Ja o)->h'.get? e=Ja o->o.cls= .type "StopIteration"->E (.ref e) {s with heap:=h'}):
  Jh (Jt prog w) A (newExc (.type "StopIteration") []>>=λe=>(raiseNew e:Sem α)) Q E s:=by
 simp only[newExc,newTuple];refine YA ?_;refine YA<|wpAny_newObj_type ?_ (by size_fits);refine YA (m:=YU _ _)<|wpAny_of_eq (a:=Value.none) (by first|rfl|(simp only[YU];rfl)) ?_;refine JC ?_ (by size_fits);have kp:∀b o,s.heap.get? b=Ja o->((s.heap.push {cls:= .type "tuple",data:= .seq [].toArray}).push {cls:= .type "StopIteration",data:= .fields (#[.ref s.heap.objs.size,.none,.none,.none,.bool Jd,.none]++ownMembersOf (.type "StopIteration") [])}).get? b=Ja o:=
  λb o e=>Qm _<|Qm _ e
 show Jh _ _ (raiseNew _) _ _ _;unfold raiseNew;refine YA<|wpAny_handled ?_
 rcases hh with hh|⟨a,o,vs,h1,h2,h3,h4⟩
 ·rw[hh];exact YA<|YB (wpAny_throw<|k _ _ _ kp (QG _ rfl) rfl)
 ·rw[h1];have ha:a<s.heap.objs.size:=QH h2;have hne:(Value.ref a !=Value.ref (s.heap.push {cls:= .type "tuple",data:= .seq [].toArray}).objs.size)=Jc:=by
   rw[Kh];exact bne_iff_ne.mpr λe=>by injection e with e;exact Kn (KU ha) e
  show Jh _ _ (if(Value.ref a !=Value.ref (s.heap.push {cls:= .type "tuple",data:= .seq [].toArray}).objs.size)=Jc then _ else _) _ _ _;rw[Uh hne];refine YA<|YE (PyProof.Rows.runValue_entry lP ?_);show Jh _ _ (field (.ref a) 2>>=_) _ _ _;refine YA<|YD (kp a o h2) h3 h4 ?_;show Jh _ _ (ret Value.none) _ _ _;refine YB ⟨_,rfl,?_⟩;refine YA<|wpAny_setField (a:=(s.heap.push {cls:= .type "tuple",data:= .seq [].toArray}).objs.size) (QG _ rfl) rfl (by rw[Array.size_append];exact QX (by decide)<|QV 6 _) ?_;refine wpAny_throw<|k _ _ _ (λb o e=> ?_) (Ka _ (QG _ rfl) rfl) rfl;rw[Km]
  ·exact kp b o e
  ·rw[Kh];exact KL<|KU (QH e)
theorem HOK.upd{h:Ji}{o:Jp}(U:HOK A h)(T:h.get? t=Ja o)(d:o.data= .fields vs)(hi:i≠2):HOK A (h.update t (Obj.mapFields (·.setIfInBounds i x))):=
 U.at λa b v N p J=>by
  by_cases e:a=t
  ·subst e;obtain rfl:=sj<|T.symm.trans N;rw[d] at p;cases p;refine⟨_,_,Ka _ T<|Obj.isFreed_of_fields (Obj.data_mapFields d _),Obj.data_mapFields d _,?_⟩;rw[Array.getElem?_setIfInBounds,Ug hi];exact J
  ·exact⟨b,v,(Km _ _<|Ne.symm e).trans N,p,J⟩
theorem jW{Q:Option Jf->Je->Prop}(hh:HOK A h1)(hs:Wl it s.heap h1)(hQ:∀h',Wl it s.heap h'->Q Jb {s with heap:=h'}){α:Type}{R:α->Je->Prop}
  (E':Jf->Je->Prop) (hE:∀e h',(∃o,h'.get? e=Ja o/\o.cls= .type "StopIteration")->Q Jb {s with heap:=h'}->E' (.ref e) {s with heap:=h'}):
  Jh (Jt prog w) A.in1 (newExc (.type "StopIteration") []>>=λe=>(raiseNew e:Sem α)) R E' {s with heap:=h1}:=
 xe (A:=A.in1) (s:={s with heap:=h1}) hh λh' e o kp he hc=>hE e h' ⟨o,he,hc⟩<|hQ h' λb o hb eo=>kp b o<|hs b o hb eo
theorem iV{items}{Q:Option Jf->Je->Prop}(hh:HOK A s.heap)(hit:s.heap.IsListIter it l i)(hl:s.heap.IsList l items)(hx:items[i]? =Jb)
  (hQ:∀h',Wl it s.heap h'->Q Jb {s with heap:=h'}):Jh (Jt prog w) A (Ju<|.ref it) Q E s:=by
 obtain⟨o,ho,hc,hd⟩:=id hit;obtain⟨ol,hol,o0,nl,hdl⟩:=hl;unfold Ju;refine YA (JN (JD (name:=Qb "__next__") hit.typeIs slot_listiter_next
  (YG slot_listiter_next hit.typeIs entry_listiter_next ?_ (args_listiter_next _))))
 show Jh _ _ (field (.ref it) 0>>=_) _ _ s;refine YA<|YD ho hd (x:= .ref l) rfl ?_;show Jh _ _ (if(Value.ref l==Value.none)=Jc then _ else _) _ _ s;rw[Ug (show ¬ ((Value.ref l==Value.none)=Jc) from QC)];show Jh _ _ (field (.ref it) 1>>=_) _ _ s;refine YA<|YD ho hd (x:= .int i 0) rfl ?_;show Jh _ _ (seqItems? (.ref l)>>=_) _ _ s;refine YA<|wpAny_seqItems hol hdl ?_;simp only[Int.toNat_natCast,hx];refine YA<|wpAny_rule (YA<|wpAny_setField ho hd (by simp) ?_);exact jW (hh.upd ho hd<|by decide) (Ky.update ..).extBut hQ _ λe h' he q=>YA<|wpAny_isInstance (T:="StopIteration") (b:=Jc) he J4 (YB q)
theorem ic{items}{Q:Option Jf->Je->Prop}(hh:HOK A s.heap)
  (hit:s.heap.IsTupleIter it t i)(ht:s.heap.IsTuple t items)(hx:items[i]? =Jb)
  (hQ:∀h',Wl it s.heap h'->Q Jb {s with heap:=h'}):Jh (Jt prog w) A (Ju<|.ref it) Q E s:=by
 obtain⟨o,ho,hc,hd⟩:=id hit;obtain⟨ol,hol,o0,nl,hdl⟩:=ht;unfold Ju;refine YA (JN (JD (name:=Qb "__next__") hit.typeIs F.slot_tuple_iterator_next
  (YG F.slot_tuple_iterator_next hit.typeIs F.entry_tuple_iterator_next ?_ (F.args_tuple_iterator_next_1 _))))
 show Jh _ _ (field (.ref it) 0>>=_) _ _ s;refine YA<|YD ho hd (x:= .ref t) rfl ?_;show Jh _ _ (if(Value.ref t==Value.none)=Jc then _ else _) _ _ s;rw[Ug (show ¬ ((Value.ref t==Value.none)=Jc) from QC)];show Jh _ _ (field (.ref it) 1>>=_) _ _ s;refine YA<|YD ho hd (x:= .int i 0) rfl ?_;show Jh _ _ (seqItems? (.ref t)>>=_) _ _ s;refine YA<|wpAny_seqItems hol hdl ?_;simp only[Int.toNat_natCast,hx];refine YA<|wpAny_rule (YA<|wpAny_setField ho hd (by simp) ?_);exact jW (hh.upd ho hd<|by decide) (Ky.update ..).extBut hQ _ λe h' he q=>YA<|wpAny_isInstance (T:="StopIteration") (b:=Jc) he J4 (YB q)
theorem lm{x left step:Int}{Q:Option Jf->Je->Prop}(hh:HOK A s.heap)(hit:IsRangeIter s.heap it x left step)(hleft:left<=0)
  (hQ:∀h',Wl it s.heap h'->Q Jb {s with heap:=h'}):Jh (Jt prog w) A (Ju<|.ref it) Q E s:=by
 have hT:s.TypeIs (.ref it) "range_iterator":=⟨_,hit,rfl⟩
 unfold Ju;refine YA (JN (JD (name:=Qb "__next__") hT F.slot_range_iterator_next
  (YG F.slot_range_iterator_next hT F.entry_range_iterator_next ?_ (F.args_range_iterator_next_1 _))))
 show Jh _ _ (field (.ref it) 0>>=_) _ _ s;refine YA<|YD hit rfl (x:=Jy x) rfl ?_;show Jh _ _ (field (.ref it) 1>>=_) _ _ s;refine YA<|YD hit rfl (x:=Jy left) rfl ?_;show Jh _ _ (field (.ref it) 2>>=_) _ _ s;refine YA<|YD hit rfl (x:=Jy step) rfl ?_;show Jh _ _ (if left<=0 then _ else _) _ _ s;rw[Uh hleft];refine YA<|wpAny_rule ?_;refine YA ?_;exact jW hh (Wl.refl it s.heap) hQ _ λe h' he q=>YA<|wpAny_isInstance (T:="StopIteration") (b:=Jc) he J4 (YB q)
theorem r9{i:Array Jf}{Q:List Jf->Je->Prop}(U:HOK A s.heap)(W:s.heap.IsTuple t i)
  (X:∀S,Wl s.heap.objs.size s.heap S->Q i.toList {s with heap:=S}):Jh (Jt prog w) A (unpackItems (.ref t) i.size Jb) Q E s:=by
 have l:t≠s.heap.objs.size:=by obtain⟨o,d,o0⟩:=W;exact Kn<|QH d
 unfold unpackItems;refine YA ?_;unfold notIterableAtAll;refine YA<|wpAny_specialOf W.typeIs F.slot_tuple_iter.lookup ?_;refine YB ?_;simp only[Wy,if_false];refine YA<|YE (wpAny_pyIter_tuple W ?_);refine YA<|YE (wpAny_draw_tuple l i.size 0 _ _ ⟨_,QG _ rfl,rfl,rfl⟩ (W.push _) (by exact QS<|Ww _) λV y h=> ?_);have D:List.take i.size (Yz 0 i.toList)=i.toList:=by
  rw[List.drop_zero];exact WF<|by simp
 rw[D];rw[Ug (by simp)];have j:V.IsTuple t i:=(W.push _).extBut h.extBut l;have K:HOK A V:=U.at λa o v N B J=>⟨o,v,h.extBut a o (Kn<|QH N)<|Qm _ N,B,J⟩
 refine YA<|YE (ic (s:={s with heap:=V}) K y j (by simp) λp Y=> ?_);simp only[Option.isSome_none,Wy,if_false];exact YB<|X p λb o R e=>Y b o R<|h.extBut b o R (Qm _ e)
theorem m8{x1}{i:Array Jf}{Q:Unit->Je->Prop}(U:HOK A s.heap)(W:s.heap.IsTuple t i)
  (n:(JQ e env).length=i.size)(a:(JQ e env).findIdx? (·.1)=Jb)
  (h:∀S,Wl s.heap.objs.size s.heap S->Jh (Jt prog w) A (assignInOrder ((JQ e env).map (·.2)) i.toList) Q E {s with heap:=S}):
  Jh (Jt prog w) A (assign (.Tuple e x1 pos) env<|.ref t) Q E s:=by
 rw[arm_assign_Tuple];refine YA<|YF ?_;unfold unpack;rw[n,a];exact YA<|YE (r9 U W h)
theorem HOK.as{h:Ji}(x:HOK A h):∃as:List Jg,(∀a,A.handled=Ja (.ref a)->a∈as)/\∀a∈as,a<h.objs.size:=by
 rcases x with x|⟨a,o,v,N,p,o0⟩
 ·exact⟨[],λa e=>(by exact ns<|x.symm.trans e),λa e=>(bQ e)⟩
 ·exact⟨[a],λb e=>(by rw[N] at e;cases e;exact .head _),λb e=>by cases Qk.mp e;exact QH p⟩
theorem lB(I m:Jg)(n:m≠I)(t:Array Jf)(as:List Jg)(S:∀a,A.handled=Ja (.ref a)->a∈as)(P:∀a∈as,a≠I):
  Walks prog w A I (I::m::as) [I] t.size (λi v=>t[i]? =Ja v) (λi h=>(h.IsListIter I m i/\h.IsList m t)/\HOK A h) where
 sub:=λb R=>by simp at R;simp[R]
 frame:=λo0 o0 o0 X k=>⟨⟨X.1.1.at λo e=>k I (by simp) o e,X.1.2.at λo e=>k m (by simp) o e⟩,by
  rcases X.2 with q|⟨a,o,J,N,p,H,O⟩
  ·exact .inl q
  ·exact .inr ⟨a,o,J,N,k a (.tail _ (.tail _ (S a N))) o p,H,O⟩⟩
 item:=λi s Q E V X j=>by
  refine wpAny_pyNext_list_item X.1.1 X.1.2 (x:=t[i]) (by simp[V]) λW K B=> ?_;refine j _ W s.toks (by simp[V]) ⟨⟨K,X.1.2.extBut B.extBut n⟩,?_⟩ λb o R e=>B.extBut b o (λh=>R<|by simp[h]) e
  rcases X.2 with q|⟨a,o,J,N,p,H,O⟩
  ·exact .inl q
  ·exact .inr ⟨a,o,J,N,B.extBut a o (P a<|S a N) p,H,O⟩
 done:=λs Q E X j=>iV X.2 X.1.1 X.1.2 (by simp) λW c=>j W s.toks λb o R e=>c b o (λh=>R<|by simp[h]) e
 self:=λo0 o0 o0 o0 X j=>wpAny_pyIter_listiter X.1.1 j
end
section
open PySem.W
noncomputable abbrev bmE:List Jf:=[.type "ValueError",.type "Exception",.type "BaseException",.type "object"]
theorem pN(T:J8 h bmE bm)(self:Jf):refuseLoop self "__setattr__" bm=pure ():=by
 induction T with
 |base=>exact F.store_ValueError.passes self
 |own _ _ _ _ i=>rw[refuseLoop_ref];exact i
section
variable{prog:Jn}{w:Jm}{A:Jj}{E:Jf->Je->Prop}{h:Ji}{g:Array GenState}{d:Drawn}{t:Nat}{os:OsState}
variable{nm q:Jq}{C N x:Jg}{bs bm:List Jf}{sn:List Jq}{sub:List Jf}{ab:Bool}{col:Option Bool}{dd:Option Jg}{k0 k1 k2 k3 k5:Option Jf}{newId:String}
 {mA:Jq->Option Jf} {name:Jq} {v:Jf}
structure Stored(h h':Ji)(x C:Jg)(name:Jq)(v:Jf)(mA:Jq->Option Jf):Prop where
 inst:h'.Inst x C (λy=>if y=name then Ja v else mA y)
 keep:∀b o,b≠x->(∀o₀ dx,h.get? x=Ja o₀->o₀.dict=Ja dx->b≠dx)->h.get? b=Ja o->h'.get? b=Ja o
 obj:∀o₀,h.get? x=Ja o₀->∃o₁,A5 (h'.get? x=Ja o₁) (o₁.cls=o₀.cls) (o₁.data=o₀.data) (o₁.slots=o₀.slots) (∀dx,o₀.dict=Ja dx->o₁.dict=Ja dx)
 fresh:∀o₁ dx,h'.get? x=Ja o₁->o₁.dict=Ja dx->h.get? dx=Jb\/∃o₀,h.get? x=Ja o₀/\o₀.dict=Ja dx
theorem oZ{id o nm:String}{self:Jf}{Q:Unit->Je->Prop}{E:Jf->Je->Prop}(k:builtinKind id=Ja .slot)(H:splitId id=Ja (o,nm))(T:argsOk id ⟨self::rest,[]⟩)
  (hi:Jh M A (isInstance self<|.type o) (λb s'=>b=Jc/\Q () s') E s):Jh M A (Y7 id ⟨self::rest,[]⟩) Q E s:=by
 simp only[Y7,k,H];refine YA (YC hi (λb s' h=> ?_) λo0 o0 h=>h);obtain⟨rfl,h⟩:=h;refine wn QC ?_
 induction i:Manifest.signature? id with
 |none=>exact YB h
 |some y=>
  simp only[argsOk,i] at T;exact JY (a:=()) T h
theorem yL{tk:Tok}{Q:Fin->Je->Prop}{ns:List Jq}(T:J8 h bmE bm)
  (hC:h.get? C=Ja (JG nm q C N bs bm Jc sn sub ab col dd k0 k1 k2 k3 k5 newId))(L:Looks (Jt prog w) h (J6 (.ref C) name) Jb)
  (I:h.Inst x C mA)(hq:∀S X,Stored h S x C name v mA->Q (.done<|.ret .none) ⟨S,g,d,X,os⟩)(hw:Within mA ns)(hsz:ns.length<=JM):
  Jh (Jt prog w) A (Builtin.«object.__setattr__» ⟨[.ref x,.str name tk,v],[]⟩) Q E ⟨h,g,d,t,os⟩:=by
 obtain⟨o,hx,M,R,hd⟩:=I;have a:=pN T<|.ref x;unfold Builtin.«object.__setattr__»
 repeat (first|rw[refuse_eq]|(rw[refuseLoop_ref,a])|(with_reducible refine Jz hx ?_;rw[M])|with_reducible refine wpAny_mroOf_exc hC ?_|with_reducible refine L.at ?_|wp_step)
 rcases hd with⟨u,ac⟩|⟨l,K,Z,Y⟩
 ·rw[u,Ug (by simp[typeHasDict])]
  split
  ·rename_i W
   cases W
  split
  ·rename_i c W
   exact absurd W<|R c
  ·have j:(h.push {cls:= .type "dict",data:= .dict #[]}).get? x=Ja o:=Qm _ hx;have s:x≠h.objs.size:=Kn<|QH hx;refine YA<|wpAny_alloc' ?_;refine YA<|wpAny_update' j ?_;refine YB ?_;have O:((h.push {cls:= .type "dict",data:= .dict #[]}).update x λo=>{cls:=o.cls,dict:=Ja h.objs.size,data:=o.data,slots:=o.slots}).get? h.objs.size
     =Ja {cls:= .type "dict",data:= .dict #[]}:=
    (Heap.get?_update_ne _ _ _ _ s.symm).trans (Heap.get?_push_at rfl rfl)
   have aa:((h.push {cls:= .type "dict",data:= .dict #[]}).update x λo=>{cls:=o.cls,dict:=Ja h.objs.size,data:=o.data,slots:=o.slots}).Ns h.objs.size (λo0=>Jb):=
    ⟨_,#[],_,O,rfl,λe he=>absurd he<|by simp,λo0=>rfl⟩
   show Jh _ _ (Builtin.ObjectAttr.storeInDict h.objs.size (.str name tk) name v) _ _ _;unfold Builtin.ObjectAttr.storeInDict Builtin.ObjectAttr.newKeyGuard;refine YA<|YB (YA<|wpAny_nsSet1 (Heap.Ns1.of_empty aa) λS n H=> ?_);obtain⟨oD,V,G,D,z,i⟩:=n.count<|Within.cons name v Within.nil;refine YA<|wpAny_lookBehind D (by rw[z];exact pastItsLine_dict<|QD i (by rw[Wi,WD,JZ];decide)) ?_
   wp_walk
   have m:S.get? x=Ja {cls:=o.cls,dict:=Ja h.objs.size,data:=o.data,slots:=o.slots}:= ?_;refine hq S _ ⟨⟨{cls:=o.cls,dict:=Ja h.objs.size,data:=o.data,slots:=o.slots},m,M,R,.inr ⟨h.objs.size,rfl,s.symm,?_⟩⟩,(λb ob P o0 B=> ?_),
    (λU k=>by obtain rfl:o=U:=Option.some.inj (hx.symm.trans k);exact⟨_,m,rfl,rfl,rfl,λl e=>by rw[u] at e;cases e⟩),λp l f F=>by rw[m] at f;cases f;cases F;exact .inl (WL (QA _))⟩
   ·obtain⟨o',es,ep,f,F,e3,eu,e4⟩:=n;exact⟨o',es,ep,f,F,e3,eu,λy=>by rw[e4 y];by_cases hy:y=name<;>simp[hy,ac]⟩
   ·exact(H.2 b<|Kn (QH B)).trans ((Heap.get?_update_ne _ _ _ _ P).trans (Qm _ B))
   ·refine(H.2 x s).trans (Ka _ j ?_);have ad:=(Heap.get?_some_iff.mp hx).2;obtain⟨oc,od,J,ae⟩:=o
    rcases J with⟨⟩<;>first|rfl|exact ad
 ·rw[K];refine YB ?_;show Jh _ _ (Builtin.ObjectAttr.storeInDict l (.str name tk) name v) _ _ _;unfold Builtin.ObjectAttr.storeInDict Builtin.ObjectAttr.newKeyGuard;refine YA<|YB (YA<|wpAny_nsSet1 Y λS n H=> ?_);obtain⟨oD,V,G,D,z,i⟩:=n.count<|Within.cons name v hw;refine YA (wpAny_lookBehind D (by rw[z];exact pastItsLine_dict<|QD i (by rw[Wi];exact KP hsz)) ?_)
  wp_walk
  refine hq S _ ⟨⟨o,(H.2 x Z.symm).trans hx,M,R,.inr ⟨l,K,Z,n⟩⟩,(λb ob o0 r B=> ?_),
   (λU k=>⟨U,(H.2 x Z.symm).trans k,rfl,rfl,rfl,λo0 e=>e⟩),λp l f F=> .inr ⟨p,(H.2 x Z.symm).symm.trans f,F⟩⟩
  exact(H.2 b<|r o l hx K).trans B
theorem zZ{o:Jp}{Q:Unit->Je->Prop}(T:J8 h bmE bm)
  (i:h.get? C=Ja (JG nm q C N bs bm Jc sn sub ab col dd k0 k1 k2 k3 k5 newId))(hx:h.get? x=Ja o)(Z:o.cls= .ref C)(z:Q () ⟨h,g,d,t,os⟩):
  Jh M A (Y7 "object.__setattr__" ⟨[.ref x,n,v],[]⟩) Q E ⟨h,g,d,t,os⟩:=by
 have c:(Value.ref C::bm).contains (.type "object")=Jc:=by rw[KZ,T.hasType F.store_ValueError.hasOwner,Bool.or_true]
 have a:=F.store_ValueError.args (.ref x) n v;have k:=F.store_ValueError.kind;have s:=F.store_ValueError.split;refine oZ (id:="object.__setattr__") (self:= .ref x) (rest:=[n,v]) k s a ?_;unfold isInstance
 repeat (first|(with_reducible refine Jz hx ?_;rw[Z])|(with_reducible refine Y0 i ?_;rw[c])|wp_step)
 exact⟨rfl,z⟩
theorem se{Q:Unit->Je->Prop}{ns:List Jq}(T:J8 h bmE bm)
  (M:h.get? C=Ja (JG nm q C N bs bm Jc sn sub ab col dd k0 k1 k2 k3 k5 newId))(L:Looks (Jt prog w) h (J6 (.ref C) name) Jb)
  (s:Looks (Jt prog w) h (J6 (.ref C) "__setattr__") (Ja<|.builtin "object.__setattr__"))(I:h.Inst x C mA)
  (z:∀W k,Stored h W x C name v mA->Q () ⟨W,g,d,k,os⟩)(H:Within mA ns)(hsz:ns.length<=JM):
  Jh (Jt prog w) A (setAttr (.ref x) name v) Q E ⟨h,g,d,t,os⟩:=by
 obtain⟨o,hx,c,o0⟩:=id I;have f:=F.store_ValueError.slot.bind<|.ref x;unfold setAttr callSpecial? specialOf
 repeat (any_goals (first|assumption|(with_reducible refine Jz hx ?_;rw[c])|with_reducible refine s.at ?_|wp_step))
 refine codeAny_call_builtin F.store_ValueError.slot.plain F.store_ValueError.entry<|zZ T M hx c ?_;refine yL T M L I (λW k S=> ?_) H hsz
 repeat (any_goals (first|assumption|wp_step))
 exact z W k S
end
end
theorem cps{G:Prop}(h:(G->False)->False):G:=Classical.byContradiction h
theorem bnx{P:Prop}(h:Jd=Jc):P:=by exact ft h
theorem onx{P:Prop}{L:Type}{x:L}(h:(Jb:Option L)=Ja x):P:=by exact ns h
set_option genCtorIdx false in
inductive PV where
 |none
 |bool(b:Bool)
 |int(i:Int)
 |str(s:String)
 |tup(l:List PV)
 |ref(a:Jg)
 |scr(l:List Int)
 deriving Inhabited
noncomputable abbrev PV.ctorIdx(x:PV):Nat:=PV.casesOn x 0 (λo0=>1) (λo0=>2) (λo0=>3) (λo0=>4) (λo0=>5) (λo0=>6)
set_option genCtorIdx false in
inductive PO where
 |list(l:List PV)
 |exc(c:String)(d:Option Jg)
 |hid
 |dict(ks:List (List KA))(l:List PV)
 |fd(c:String)(fs:List PV)
 |inst(d:Jg)
 deriving Inhabited
noncomputable abbrev PO.ctorIdx(x:PO):Nat:=PO.casesOn x (λo0=>0) (λo0 o0=>1) 2 (λo0 o0=>3) (λo0 o0=>4) (λo0=>5)
noncomputable def PO.fixed:PO->Bool
 | .exc .. | .hid| .fd .. | .inst _=>Jc
 |_=>Jd
abbrev PH:=Jg->Option PO
noncomputable def PH.set(σ:PH)(a:Jg)(o:PO):PH:=λb=>if b=a then Ja o else σ b
theorem PH.set_same(σ:PH)(a:Jg)(o:PO):(σ.set a o) a=Ja o:=Uh rfl
theorem PH.set_ne(σ:PH)(o:PO)(h:b≠a):(σ.set a o) b=σ b:=Ug h
abbrev Rho:=List<|String×Option PV
noncomputable def Rho.get:Rho->String->Option PV
 |[],_=>Option.none
 |(y,v)::r,x=>if y=x then v else Rho.get r x
noncomputable def Rho.put:Rho->String->PV->Rho
 |[],_,_=>[]
 |(y,o)::r,x,v=>if y=x then(y,Ja v)::r else(y,o)::Rho.put r x v
theorem Rho.get_c(y:String)(v:Option PV)(r:Rho)(x:String):Rho.get ((y,v)::r) x=if y=x then v else Rho.get r x:=rfl
theorem Rho.put_c(y:String)(o:Option PV)(r:Rho)(x:String)(v:PV):Rho.put ((y,o)::r) x v=if y=x then(y,Ja v)::r else(y,o)::Rho.put r x v:=rfl
noncomputable def Rho.wipe(ρ:Rho):Rho:=ρ.map λp=>(p.1,Option.none)
noncomputable def Rho.bindX(ρ:Rho)(x:String)(v:PV):Rho:=if x="" then ρ else ρ.put x v
noncomputable def Rho.unX(ρ:Rho)(x:String):Rho:=if x="" then ρ else ρ.wipe
noncomputable def Rho.puts:Rho->List String->List PV->Rho
 |ρ,x::s,v::w=>Rho.puts (ρ.put x v) s w
 |ρ,_,_=>ρ
set_option genCtorIdx false in
inductive BOp where
 |add|sub|mul|fdiv|mod|pow(u:Unit)
set_option genCtorIdx false in
inductive COp where
 |eq|ne|lt|le|gt(u:Unit)|ge|in_|nin
set_option genCtorIdx false in
inductive BI where
 |len|all|sum|int|list|min|sorted|dict(u:Unit)
noncomputable def BI.quiet:BI->Bool
 | .len| .int| .all| .sum=>Jc
 |_=>Jd
inductive Me where
 |append
inductive IK where
 |val|range|zip
noncomputable def IK.isZ:IK->Bool
 | .zip=>Jc
 |_=>Jd
set_option genCtorIdx false in
inductive Tg where
 |name(x:String)
 |tup(l:List String)
noncomputable abbrev Tg.ctorIdx(x:Tg):Nat:=Tg.casesOn x (λo0=>0) (λo0=>1)
set_option genCtorIdx false
inductive E where
 |none
 |bool(b:Bool)
 |int(i:Int)
 |str(s:String)
 |loc(x:String)
 |glob(x:String)
 |bin(op:BOp)(a b:E)
 |not_(a:E)
 |and_(a b:E)
 |or_(a b:E)
 |isNone(a:E)
 |notNone(a:E)
 |cmp(op:COp)(a b:E)
 |cmp2(a:E)(o1:COp)(b:E)(o2:COp)(c:E)
 |tup(l:List E)
 |list(l:List E)
 |sub(a i:E)
 |upto(a hi:E)
 |from_(a lo:E)
 |comp(elt:E)(tg:Tg)(k:IK)(it:List E)
 |compIf(elt:E)(tg:Tg)(k:IK)(it:List E)(cond:E)
 |call(f:String)(args:List E)
 |bi(b:BI)(args:List E)
 |isi(a:E)(ts:List String)
 |meth(o:E)(m:Me)(args:List E)
 |dict0
 |get(a k:E)
 |sd(a k:E)
 |attr(x f:String)
 |mcall(f:String)(o:E)(args:List E)
 |cnt(ix:Bool)(a:E)
 deriving Inhabited
inductive S where
 |assign(tg:Tg)(e:E)
 |setIdx(o i e:E)
 |expr(e:E)
 |ret(e:E)
 |if_(t:E)(b o:List S)
 |for_(tg:Tg)(k:IK)(it:List E)(b:List S)
 |while_(t:E)(b:List S)
 |raise(c:String)(args:List E)
 |try1(b:List S)(c x:String)(h:List S)
 deriving Inhabited
set_option genCtorIdx true
set_option genCtorIdx false in
inductive Fl where
 |next
 |ret(v:PV)
structure PX where
 c:String
 fs:List PV
abbrev Post:=PV->PH->Prop
abbrev XPost:=PX->PH->Prop
abbrev Cl:=String->List PV->PH->Post->XPost->Prop
structure Gx where
 glob:String->Option PV
 sub:String->String->Bool
 full:Bool
 fn:String->Bool
 calm:Bool
 cs:List String
 mks:List String
 inis:List String
 flds:String->List String
noncomputable def Gx.isCls(G:Gx)(t:String):Bool:=(G.cs.contains t&& !["int","bool","list","tuple","dict"].contains t)||t=="ValueError"
noncomputable def stat(ts:List String):Bool:=ts.length==1&&ts.all λt=>["int","bool","list","tuple","dict"].contains t
noncomputable def Gx.un(G:Gx):Gx:={G with calm:=Jd}
noncomputable def lim:Nat:=1000000
def wnew(o:PO)(σ:PH)(Q:Post):Prop:=∀a,σ a=Jb->Q (.ref a) (σ.set a o)
noncomputable def kaOf:PV->Option KA
 | .int i=>Ja<|.n i
 | .str s=>Ja<|.t s
 |_=>Jb
noncomputable def kasOf:List PV->Option (List KA)
 |[]=>Ja []
 |p::r=>(kaOf p).bind λk=>(kasOf r).map (k:: ·)
def keyOf:PV->Option (List KA)
 | .tup l=>kasOf l
 |_=>Jb
noncomputable def KA.pv:KA->PV
 | .n i=> .int i
 | .t s=> .str s
def keyPV(k:List KA):PV:= .tup (k.map KA.pv)
noncomputable def kidx:List (List KA)->List KA->Option Nat
 |[],_=>Jb
 |k::r,x=>if k=x then Ja 0 else(kidx r x).map (· +1)
def klook(ks:List (List KA))(l:List PV)(k:List KA):Option PV:=(kidx ks k).bind λj=>l[j]?
def kset(ks:List (List KA))(l:List PV)(k:List KA)(v:PV):PO:=match kidx ks k with
 |some j=> .dict ks (l.set j v)
 |none=> .dict (ks++[k]) (l++[v])
def Okl(l:List PV):Prop:=l.length<=lim
def wlist(l:List PV)(σ:PH)(Q:Post):Prop:=Okl l/\wnew (.list l) σ Q
mutual
noncomputable def Rd(σ:PH):YV->PV->Prop
 | .none,v=>v= .none
 | .bool b,v=>v= .bool b
 | .int i,v=>v= .int i
 | .str x,v=>∃s,v= .str s/\x=Qb s
 | .tuple ds,v=>∃l,v= .tup l/\Rds σ ds l
 | .list ds,v=>X2 λa l=>A3 (v= .ref a) (σ a=Ja (.list l))<|Rds σ ds l
 | .dict _,_=>False
noncomputable def Rds(σ:PH):List YV->List PV->Prop
 |[],l=>l=[]
 |d::ds,l=>X2 λp ps=>A3 (l=p::ps) (Rd σ d p)<|Rds σ ds ps
end
def okD(d:YV):Prop:=d.canLay0=Jc/\d.depth<=50
inductive Wit{α β:Type}(f:α->β)(v:β)(K:α->Prop):Prop
 |mk (x:α) (e:v=f x) (k:K x):Wit f v K
inductive WitL(σ:PH)(K:List PV->Prop)(v:PV):Prop
 |mk (a:Jg) (l:List PV) (e:v= .ref a) (s:σ a=Ja (.list l)) (k:K l):WitL σ K v
noncomputable def onInt(K:Int->Prop):PV->Prop
 | .int x=>K x
 |_=>False
noncomputable def onO(K:List PV->Prop):Option PO->Prop
 |some (.list l)=>K l
 |_=>False
def onL(σ:PH)(K:List PV->Prop):PV->Prop
 | .ref a=>onO K<|σ a
 |_=>False
noncomputable def onDO(K:List (List KA)->List PV->Prop):Option PO->Prop
 |some (.dict k l)=>K k l
 |_=>False
def onD(σ:PH)(K:List (List KA)->List PV->Prop):PV->Prop
 | .ref a=>onDO K<|σ a
 |_=>False
noncomputable def oK(K:List KA->Prop):Option (List KA)->Prop
 |some k=>K k
 |none=>False
theorem i3{K:List KA->Prop}(h:oK K o):Wit Ja o K:=by
 induction o with
 |none=>exact h.elim
 |some v=>exact⟨v,rfl,h⟩
inductive WitD(σ:PH)(K:List (List KA)->List PV->Prop)(v:PV):Prop
 |mk (a:Jg) (ks:List (List KA)) (l:List PV) (e:v= .ref a) (s:σ a=Ja (.dict ks l)) (k:K ks l):WitD σ K v
theorem lz{K:List (List KA)->List PV->Prop}(h:onDO K v):∃ks l,v=Ja (.dict ks l)/\K ks l:=by
 induction v with
 |none=>exact h.elim
 |some o=>induction o with
  |dict ks l=>exact⟨ks,l,rfl,h⟩
  |_=>exact h.elim
theorem iD{K:List (List KA)->List PV->Prop}(h:onD σ K v):WitD σ K v:=by
 induction v using PV.casesOn with
 |ref a=>obtain⟨k,l,e,h⟩:=lz (show onDO K (σ a) from h);exact⟨a,k,l,rfl,e,h⟩
 |_=>exact h.elim
theorem du{K:Int->Prop}(h:onInt K v):Wit PV.int v K:=by
 induction v using PV.casesOn with
 |int x=>exact⟨x,rfl,h⟩
 |_=>exact h.elim
theorem iL{K:List PV->Prop}(h:onO K v):∃l,v=Ja (.list l)/\K l:=by
 induction v with
 |none=>exact h.elim
 |some o=>induction o with
  |list l=>exact⟨l,rfl,h⟩
  |_=>exact h.elim
theorem fw{K:List PV->Prop}(h:onL σ K v):WitL σ K v:=by
 induction v using PV.casesOn with
 |ref a=>obtain⟨l,e,h⟩:=iL (show onO K (σ a) from h);exact⟨a,l,rfl,e,h⟩
 |_=>exact h.elim
theorem gU{K:List PV->Prop}(e:σ a=Ja (.list l)):onL σ K (.ref a)=K l:=by
 show onO K (σ a)=K l;rw[e];rfl
def src(k:IK)(vs:List PV)(σ:PH)(K:List PV->(PH->Prop)->Prop):Prop:=
 match k with
 | .val=>match vs with
  |[.tup l]=>K l λo0=>True
  |[.ref a]=>onL σ (λl=>K l λT=>T a=Ja (.list l))<|.ref a
  |_=>False
 | .range=>match vs with
  |[v]=>onInt (λn=> -1000000<n/\K ((Qc n.toNat).map λ(i:Nat)=> .int i) λo0=>True) v
  |_=>False
 | .zip=>match vs with
  |[.ref a,.ref b]=>onL σ (λl=>onL σ (λm=>K ((l.zip m).map λp=> .tup [p.1,p.2]) λT=>T a=Ja (.list l)/\T b=Ja (.list m))<|.ref b)<|.ref a
  |_=>False
def whid(k:IK)(σ:PH)(K:PH->Prop):Prop:=
 match k with
 | .zip=>∀z,σ z=Jb->K (σ.set z .hid)
 |_=>K σ
noncomputable def bindT:Tg->PV->Rho->Option Rho
 | .name x,v,ρ=>Ja<|ρ.put x v
 | .tup s,.tup w,ρ=>if w.length=s.length then Ja (ρ.puts s w) else Jb
 |_,_,_=>Jb
noncomputable def Tg.names:Tg->List String
 | .name x=>[x]
 | .tup s=>s
noncomputable def blank(tg:Tg)(ρ:Rho):Rho:=(".0",Jb)::((tg.names.map λx=>(x,Jb))++ρ)
def bindC(tg:Tg)(v:PV)(ρ:Rho):Option Rho:=bindT tg v<|blank tg ρ
noncomputable def lenO:Option PO->Option Nat
 |some (.list l)=>Ja l.length
 |_=>Jb
theorem t1(h:lenO o=Ja k):∃l,o=Ja (.list l)/\l.length=k:=by
 rcases o with o0|o
 ·exact ns h
 ·induction o with
  |list l=>exact⟨l,rfl,sj h⟩
  |_=>exact ns h
def plen(σ:PH):PV->Option Nat
 | .ref a=>lenO<|σ a
 | .tup l=>Ja l.length
 | .scr l=>Ja l.length
 |_=>Jb
noncomputable def place(n:Nat)(i:Int):Option Nat:=
 if 0<=i then(if i<n then Ja i.toNat else Jb) else(if 0<=i+n then Ja (i+n).toNat else Jb)
noncomputable def cut(n:Nat)(i:Int):Nat:=if 0<=i then min i.toNat n else(i+n).toNat
def psubL(l:List PV):PV->Option PV
 | .int k=>(place l.length k).bind λj=>l[j]?
 |_=>Jb
def psubO(i:PV):Option PO->Option PV
 |some (.list l)=>psubL l i
 |_=>Jb
def psub(σ:PH):PV->PV->Option PV
 | .ref a,i=>psubO i<|σ a
 | .tup l,.int k=>(place l.length k).bind λj=>l[j]?
 | .scr l,.int k=>((place l.length k).bind λj=>l[j]?).map .int
 |_,_=>Jb
noncomputable def dM:List PV->Option (List Int)
 |[]=>Ja []
 | .int i::r=>(dM r).map (i:: ·)
 |_=>Jb
noncomputable def er:List PV->Option (List Bool)
 |[]=>Ja []
 | .bool i::r=>(er r).map (i:: ·)
 |_=>Jb
def wadd(a b:PV)(σ:PH)(Q:Post):Prop:=
 match a with
 | .int x=>onInt (λy=>Q (.int (x+y)) σ) b
 | .ref x=>onL σ (λl=>onL σ (λm=>wlist (l++m) σ Q) b) (.ref x)
 |_=>False
def wbin(o:BOp)(a b:PV)(σ:PH)(Q:Post):Prop:=
 match o with
 | .add=>wadd a b σ Q
 | .sub=>onInt (λx=>onInt (λy=>Q (.int (x-y)) σ) b) a
 | .mul=>onInt (λx=>onInt (λy=>(x.natAbs<2^64\/y.natAbs<2^64)/\Q (.int (x*y)) σ) b) a
 | .fdiv=>onInt (λx=>onInt (λy=>y≠0/\y.natAbs<1073741824/\Q (.int (x.fdiv y)) σ) b) a
 | .mod=>onInt (λx=>onInt (λy=>y≠0/\Q (.int (x.fmod y)) σ) b) a
 | .pow _=>onInt (λx=>onInt (λy=>0<=y/\y<=1000/\x.natAbs<2^64/\Q (.int (x^y.toNat)) σ) b) a
def weq(a b:PV)(σ:PH)(Q:Bool->PH->Prop):Prop:=X2 λc d=>A5 (Rd σ c a) (Rd σ d b) (okD c) (okD d)<|Q (PyData.eqv c d) σ
def win(a b:PV)(σ:PH)(Q:Bool->PH->Prop):Prop:=onD σ (λi o0=>oK (λk=>Q (kidx i k).isSome σ) (keyOf a)) b\/onL σ (λl=>X2 λc s=>A5 (Rd σ c a) (Rds σ s l) (okD c) ((∀d∈s,okD d)) (Q (s.any λd=>PyData.eqv d c) σ)) b
def wrel(f:Int->Int->Bool)(a b:PV)(σ:PH)(Q:Bool->PH->Prop):Prop:=onInt (λx=>onInt (λy=>Q (f x y) σ) b) a
def wcmp(o:COp)(a b:PV)(σ:PH)(Q:Bool->PH->Prop):Prop:=
 match o with
 | .eq=>weq a b σ Q
 | .ne=>weq a b σ λr σ=>Q (!r) σ
 | .in_=>win a b σ Q
 | .nin=>win a b σ λr σ=>Q (!r) σ
 | .lt=>wrel (λx y=>decide (x<y)) a b σ Q
 | .le=>wrel (λx y=>decide (x<=y)) a b σ Q
 | .gt _=>wrel (λx y=>decide (x>y)) a b σ Q
 | .ge=>wrel (λx y=>decide (x>=y)) a b σ Q
noncomputable def on1(K:PV->Prop):List PV->Prop
 |[v]=>K v
 |_=>False
theorem wX{K:PV->Prop}(h:on1 K l):∃v,l=[v]/\K v:=by
 match l,h with
 |[v],h=>exact⟨v,rfl,h⟩
noncomputable def oBs(K:List Bool->Prop):Option (List Bool)->Prop
 |some bs=>K bs
 |none=>False
noncomputable def oIs(K:List Int->Prop):Option (List Int)->Prop
 |some is=>K is
 |none=>False
theorem kK{K:List Bool->Prop}(h:oBs K o):Wit Ja o K:=by
 induction o with
 |none=>exact h.elim
 |some bs=>exact⟨bs,rfl,h⟩
theorem kG{K:List Int->Prop}(h:oIs K o):Wit Ja o K:=by
 induction o with
 |none=>exact h.elim
 |some bs=>exact⟨bs,rfl,h⟩
noncomputable def oNat(K:Nat->Prop):Option Nat->Prop
 |some n=>K n
 |none=>False
theorem gE{K:Nat->Prop}(h:oNat K o):Wit Ja o K:=by
 induction o with
 |none=>exact h.elim
 |some n=>exact⟨n,rfl,h⟩
noncomputable def cU(K:Bool->Prop):PV->Prop
 | .bool x=>K x
 |_=>False
theorem lN{K:Bool->Prop}(h:cU K v):Wit PV.bool v K:=by
 induction v using PV.casesOn with
 |bool x=>exact⟨x,rfl,h⟩
 |_=>exact h.elim
def onS(σ:PH)(K:List PV->Prop):PV->Prop
 | .tup l=>K l
 | .ref a=>onO K<|σ a
 |_=>False
theorem wD{K:List PV->Prop}(h:onS σ K v):(∃l,v= .tup l/\K l)\/X2 λa l=>A3 (v= .ref a) (σ a=Ja (.list l)) (K l):=by
 induction v using PV.casesOn with
 |tup l=>exact .inl ⟨l,rfl,h⟩
 |ref a=>obtain⟨l,e,h⟩:=iL (show onO K (σ a) from h);exact .inr ⟨a,l,rfl,e,h⟩
 |_=>exact h.elim
noncomputable def lmin:List Int->Int
 |[]=>0
 |x::r=>r.foldl min x
def wMin(σ:PH)(Q:Post)(args:List PV):Prop:=on1 (onL σ λl=>oIs (λis=>is≠ []/\Q (.int (lmin is)) σ) (dM l)) args
noncomputable def dB:List KA->Bool
 |[.n i,.n j]=>decide (0<=i/\i<8)&&decide (0<=j/\j<8)
 |_=>Jd
theorem jh(h:dB k=Jc):X2 λa b=>A3 (k=[.n ((a:Nat):Int),.n ((b:Nat):Int)]) (a<8) (b<8):=by
 rcases k with o0|⟨i,o0|⟨j,o0|⟨o0,o0⟩⟩⟩
 ·exact ft h
 ·rcases i with⟨⟩<;>exact ft h
 ·rcases i with i|o0
  ·rcases j with j|o0
   ·obtain⟨N,p⟩:=Qh.mp h;have N:=Uf N;have p:=Uf p;exact⟨i.toNat,j.toNat,by rw[WQ N.1,WQ p.1],(Wf N.1).mpr N.2,(Wf p.1).mpr p.2⟩
   ·exact ft h
  ·exact ft h
 ·rcases i with⟨⟩<;>first|exact ft h|(rcases j with⟨⟩<;>exact ft h)
def wbi(b:BI)(args:List PV)(σ:PH)(Q:Post):Prop:=
 match b with
 | .len=>on1 (λv=>oNat (λn=>n<=lim/\Q (.int n) σ) (plen σ v)) args
 | .all=>on1 (onL σ λl=>oBs (λbs=>Q (.bool (bs.all id)) σ) (er l)) args
 | .sum=>on1 (onL σ λl=>oIs (λis=>Q (.int is.sum) σ) (dM l)) args
 | .int=>on1 (cU λx=>Q (.int (if x then 1 else 0)) σ) args
 | .list=>on1 (λv=>onD σ (λs o0=>wlist (s.map keyPV) σ Q) v\/onS σ (λl=>wlist l σ Q) v) args
 | .min=>wMin σ Q args
 | .sorted=>on1 (onL σ λl=>oIs (λis=>is.length<64/\∀j:List Int,j.Perm is->j.Pairwise (· <= ·)->wlist (j.map .int) σ Q) (dM l)) args
 | .dict _=>on1 (onD σ λs l=>(s≠ []/\s.length<=lim/\∀k∈s,dB k=Jc)/\wnew (.dict s l) σ Q) args
noncomputable def isiO(G:Gx)(ts:List String):Option PO->Option Bool
 |some (.list _)=>Ja<|ts.contains "list"
 |some (.exc c _)=>if ts.all G.isCls then Ja (ts.any<|G.sub c) else Jb
 |_=>Jb
def isiV(G:Gx)(σ:PH)(v:PV)(ts:List String):Option Bool:=
 match v with
 | .none=>Ja Jd
 | .str _=>Ja Jd
 | .bool _=>Ja (ts.contains "bool"||ts.contains "int")
 | .int _=>Ja<|ts.contains "int"
 | .tup _=>Ja<|ts.contains "tuple"
 | .ref a=>isiO G ts<|σ a
 |_=>Jb
noncomputable def excV(σ:PH):PV->Bool
 | .ref a=>match σ a with
  |some (.exc ..)=>Jc
  |_=>Jd
 |_=>Jd
def isiG(G:Gx)(σ:PH)(v:PV)(ts:List String):Option Bool:=if stat ts||excV σ v then isiV G σ v ts else Jb
theorem yu(h:stat ts=Jc):isiG G σ v ts=isiV G σ v ts:=by simp[isiG,h]
def wmeth(m:Me)(o:PV)(args:List PV)(σ:PH)(Q:Post):Prop:=
 match o with
 | .ref a=>onO (λl=>match m,args with
  | .append,[v]=>l.length<lim/\Q .none (σ.set a<|.list (l++[v]))
  |_,_=>False) (σ a)
 |_=>False
def recv(m:Me)(σ:PH)(v:PV):Prop:=
 match m with
 |_=>onL σ (λo0=>True) v
noncomputable def oR(K:Rho->Prop):Option Rho->Prop
 |some v=>K v
 |none=>False
theorem p5{K:Rho->Prop}(h:oR K o):Wit Ja o K:=by
 induction o with
 |none=>exact h.elim
 |some v=>exact⟨v,rfl,h⟩
noncomputable def gv(chk:PH->Prop)(tg:Tg)(ρ:Rho)(tst:Rho->PH->(Bool->PH->Prop)->Prop)(el:Rho->PH->Post->Prop):List PV->List PV->PH->(List PV->PH->Prop)->Prop
 |[],a,σ,K=>chk σ/\K a σ
 |x::s,a,σ,K=>chk σ/\oR (λh=>tst h σ λb m=>if b then el h m λv O=>gv chk tg ρ tst el s (a++[v]) O K else gv chk tg ρ tst el s a m K) (bindC tg x ρ)
noncomputable def oV(K:PV->Prop):Option PV->Prop
 |some v=>K v
 |none=>False
theorem jP{K:PV->Prop}(h:oV K o):Wit Ja o K:=by
 induction o with
 |none=>exact h.elim
 |some v=>exact⟨v,rfl,h⟩
noncomputable def oB(K:Bool->Prop):Option Bool->Prop
 |some v=>K v
 |none=>False
theorem t7{K:Bool->Prop}(h:oB K o):Wit Ja o K:=by
 induction o with
 |none=>exact h.elim
 |some v=>exact⟨v,rfl,h⟩
noncomputable def PV.isNone:PV->Bool
 | .none=>Jc
 |_=>Jd
def qb(f:List PV->List PV)(ok:Nat->Prop)(v:PV)(σ:PH)(Q:Post):Prop:=
 match v with
 | .ref a=>onO (λl=>Okl l/\wnew (.list (f l)) σ Q) (σ a)
 |_=>False
def wget(o:Option PV)(σ:PH)(Q:Post):Prop:=match o with
 |some v=>Q v σ
 |none=>wnew (.list []) σ Q
def wsd(A:PV)(σ:PH)(Q:Post)(I:PV):Prop:=match A with
 | .ref a=>onDO (λs l=>l.length<lim/\oK (λk=>match klook s l k with
  |some v=>Q v σ
  |none=>∀b,σ b=Jb->Q (.ref b) ((σ.set b (.list [])).set a (.dict (s++[k]) (l++[.ref b])))) (keyOf I)) (σ a)
 |_=>False
noncomputable def pfd(G:Gx)(f:String):Option PO->Option PV
 |some (.fd c s)=>((G.flds c).idxOf? f).bind λj=>s[j]?
 |_=>Jb
def pfld(G:Gx)(σ:PH)(f:String):Option PO->Option PV
 |some (.exc _ (Ja d))=>pfd G f<|σ d
 |some (.inst d)=>pfd G f<|σ d
 |_=>Jb
def pattr(G:Gx)(σ:PH)(f:String):PV->Option PV
 | .ref a=>pfld G σ f<|σ a
 |_=>Jb
noncomputable def onIO:Option PO->Prop
 |some (.inst _)=>True
 |_=>False
def onI(σ:PH):PV->Prop
 | .ref a=>onIO<|σ a
 |_=>False
theorem xM(h:onI σ v):∃a d,v= .ref a/\σ a=Ja (.inst d):=by
 induction v using PV.casesOn with
 |ref a=>
  replace h:onIO (σ a):=h
  induction e:σ a with
  |none=>rw[e] at h;exact h.elim
  |some o=>induction o with
   |inst d=>exact⟨a,d,rfl,e⟩
   |_=>rw[e] at h;exact h.elim
 |_=>exact h.elim
def wcnt(i:Bool)(bs:List Bool)(K:Int->Prop):Prop:=cond i ((Jc∈bs/\bs.length<=1000)/\K (bs.idxOf Jc:Nat))<|K (bs.count Jc:Nat)
mutual
noncomputable def we(G:Gx)(cl:Cl):E->Rho->PH->Post->XPost->Prop
 | .none,_,σ,Q,_=>Q .none σ
 | .bool b,_,σ,Q,_=>Q (.bool b) σ
 | .int i,_,σ,Q,_=>Q (.int i) σ
 | .str s,_,σ,Q,_=>Q (.str s) σ
 | .loc x,ρ,σ,Q,_=>oV (λv=>Q v σ) (ρ.get x)
 | .glob x,_,σ,Q,_=>oV (λv=>Q v σ) (G.glob x)
 | .bin p a b,ρ,σ,Q,X=>we G cl a ρ σ (λA σ1=>we G cl b ρ σ1 (λq O=>wbin p A q O Q) X) X
 | .not_ a,ρ,σ,Q,X=>we G cl a ρ σ (λv σ1=>cU (λb=>Q (.bool !b) σ1) v) X
 | .and_ a b,ρ,σ,Q,X=>we G cl a ρ σ (λv σ1=>cU (λb'=>if b' then we G cl b ρ σ1 Q X else Q (.bool Jd) σ1) v) X
 | .or_ a b,ρ,σ,Q,X=>we G cl a ρ σ (λv σ1=>cU (λb'=>if b' then Q (.bool Jc) σ1 else we G cl b ρ σ1 Q X) v) X
 | .isNone a,ρ,σ,Q,X=>we G cl a ρ σ (λv σ1=>Q (.bool v.isNone) σ1) X
 | .notNone a,ρ,σ,Q,X=>we G cl a ρ σ (λv σ1=>Q (.bool !v.isNone) σ1) X
 | .cmp p a b,ρ,σ,Q,X=>we G cl a ρ σ (λA σ1=>we G cl b ρ σ1 (λq O=>wcmp p A q O λr σ3=>Q (.bool r) σ3) X) X
 | .cmp2 a h b D c,ρ,σ,Q,X=>we G cl a ρ σ (λA σ1=>we G cl b ρ σ1 (λq O=>wcmp h A q O λr σ3=>
   if r then we G cl c ρ σ3 (λj N=>wcmp D q j N λr P=>Q (.bool r) P) X else Q (.bool Jd) σ3) X) X
 | .tup l,ρ,σ,Q,X=>wes G cl l ρ σ (λvs σ1=>Q (.tup vs) σ1) X
 | .list l,ρ,σ,Q,X=>wes G cl l ρ σ (λvs σ1=>wnew (.list vs) σ1 Q) X
 | .sub a i,ρ,σ,Q,X=>we G cl a ρ σ (λA σ1=>we G cl i ρ σ1 (λC O=>onD O (λks l=>oK (λk=>oV (λv=>Q v O) (klook ks l k)) (keyOf C)) A\/oNat (λk=>k<=lim/\oV (λv=>Q v O) (psub O A C)) (plen O A)) X) X
 | .upto a hi,ρ,σ,Q,X=>we G cl a ρ σ (λA σ1=>we G cl hi ρ σ1 (λC O=>onInt (λk=>qb (λl=>l.take (cut l.length k)) (λn=>0<=k/\k<n) A O Q) C) X) X
 | .from_ a U,ρ,σ,Q,X=>we G cl a ρ σ (λA σ1=>we G cl U ρ σ1 (λC O=>onInt (λk=>qb (λl=>l.drop (cut l.length k)) (λn=>1<=k/\k<=n) A O Q) C) X) X
 | .comp g tg k V,ρ,σ,Q,X=>(k.isZ=Jd\/G.calm=Jc)/\wes G cl V ρ σ (λvs σ1=>src k vs σ1 λxs chk=>xs.length<=lim/\whid k σ1 λσ1=>gv chk tg ρ (λo0 σ K=>K Jc σ) (λρ' σ K=>we G cl g ρ' σ K λo0 o0=>False) xs [] σ1 λB O=>wnew (.list B) O Q) X
 | .compIf g tg k V d,ρ,σ,Q,X=>(k.isZ=Jd\/G.calm=Jc)/\wes G cl V ρ σ (λvs σ1=>src k vs σ1 λxs chk=>xs.length<=lim/\whid k σ1 λσ1=>gv chk tg ρ (λρ' σ K=>we G cl d ρ' σ (λv σ'=>cU (λb=>K b σ') v) λo0 o0=>False) (λρ' σ K=>we G cl g ρ' σ K λo0 o0=>False) xs [] σ1 λB O=>wnew (.list B) O Q) X
 | .call f args,ρ,σ,Q,X=>G.fn f=Jc/\wes G cl args ρ σ (λvs σ1=>cl f vs σ1 Q X) X
 | .bi b args,ρ,σ,Q,X=>(b.quiet=Jc\/G.calm=Jc)/\wes G cl args ρ σ (λvs σ1=>wbi b vs σ1 Q) X
 | .isi a ts,ρ,σ,Q,X=>((ts.length=1/\∀t∈ts,t∈ ["int","bool","list","tuple","dict"])\/G.full=Jc)/\we G cl a ρ σ (λv σ1=>oB (λb=>Q (.bool b) σ1) (isiG G σ1 v ts)) X
 | .meth o m args,ρ,σ,Q,X=>we G cl o ρ σ (λW σ1=>recv m σ1 W/\wes G cl args ρ σ1 (λvs O=>wmeth m W vs O Q) X) X
 | .dict0,_,σ,Q,_=>G.full=Jc/\wnew (.dict [] []) σ Q
 | .get a k,ρ,σ,Q,X=>we G cl a ρ σ (λA σ1=>onD σ1 (λo0 o0=>True) A/\we G cl k ρ σ1 (λI O=>onD O (λks l=>oK (λk=>wget (klook ks l k) O Q) (keyOf I)) A) X) X
 | .sd a k,ρ,σ,Q,X=>we G cl a ρ σ (λA σ1=>onD σ1 (λo0 o0=>True) A/\we G cl k ρ σ1 (λI O=>wsd A O Q I) X) X
 | .attr x f,ρ,σ,Q,_=>oV (λv=>oV (λu=>Q u σ) (pattr G σ f v)) (ρ.get x)
 | .mcall f o args,ρ,σ,Q,X=>G.fn f=Jc/\we G cl o ρ σ (λW σ1=>onI σ1 W/\wes G cl args ρ σ1 (λvs O=>cl f (W::vs) O Q X) X) X
 | .cnt y a,ρ,σ,Q,X=>we G cl a ρ σ (λA σ1=>onL σ1 (λl=>oBs (λbs=>wcnt y bs λi=>Q (.int i) σ1) (er l)) A) X
noncomputable def wes(G:Gx)(cl:Cl):List E->Rho->PH->(List PV->PH->Prop)->XPost->Prop
 |[],_,σ,Q,_=>Q [] σ
 |e::es,ρ,σ,Q,X=>we G cl e ρ σ (λv σ1=>wes G cl es ρ σ1 (λvs O=>Q (v::vs) O) X) X
end
abbrev SPost:=Fl->Rho->PH->Prop
abbrev gu:=PX->Rho->PH->Prop
noncomputable def onFl(K:Rho->PH->Prop)(Q:SPost):SPost
 | .next,ρ,σ=>K ρ σ
 | .ret v,ρ,σ=>Q (.ret v) ρ σ
noncomputable def forGo(chk:PH->Prop)(tg:Tg)(body:Rho->PH->SPost->Prop)(Q:SPost):List PV->Rho->PH->Prop
 |[],ρ,σ=>chk σ/\Q .next ρ σ
 |x::s,ρ,σ=>chk σ/\oR (λh=>body h σ (onFl (λD O=>forGo chk tg body Q s D O) Q)) (bindT tg x ρ)
def mV(e:PX)(σ:PH)(Q:Post):Prop:=
 ∀a,σ a=Jb->match e.fs with
  |[]=>Q (.ref a)<|σ.set a (.exc e.c Jb)
  |fs=>∀d,σ d=Jb->d≠a->Q (.ref a) ((σ.set d<|.fd e.c fs).set a (.exc e.c<|Ja d))
def wset(o i v:PV)(σ:PH)(K:PH->Prop):Prop:=
 match o with
 | .ref a=>onDO (λs l=>l.length<lim/\oK (λk=>K (σ.set a (kset s l k v))) (keyOf i)) (σ a)\/onO (λl=>onInt (λk=>oNat (λj=>l.length<=lim/\K (σ.set a (.list (l.set j v)))) (place l.length k)) i) (σ a)
 |_=>False
noncomputable def whGo(tst:Rho->PH->(Bool->PH->Prop)->Prop)(body:Rho->PH->SPost->Prop)(Q:SPost):Nat->Rho->PH->Prop
 |0,_,_=>False
 |n+1,ρ,σ=>tst ρ σ λb m=>if b then body ρ m (onFl (λD O=>whGo tst body Q n D O) Q) else Q .next ρ m
mutual
noncomputable def ws(G:Gx)(cl cu:Cl):S->Rho->PH->SPost->gu->Prop
 | .assign (.name x) e,ρ,σ,Q,X=>we G cl e ρ σ (λv σ1=>Q .next (ρ.put x v) σ1) λx σ1=>X x ρ σ1
 | .assign (.tup xs) e,ρ,σ,Q,X=>we G cl e ρ σ (λv σ1=>oR (λρ'=>Q .next ρ' σ1) (bindT (.tup xs) v ρ)) λx σ1=>X x ρ σ1
 | .setIdx o i e,ρ,σ,Q,X=>we G cl e ρ σ (λv σ1=>we G cl o ρ σ1 (λW O=>we G cl i ρ O (λC σ3=>wset W C v σ3 λm=>Q .next ρ m) λx σ1=>X x ρ σ1) λx σ1=>X x ρ σ1) λx σ1=>X x ρ σ1
 | .expr e,ρ,σ,Q,X=>we G cl e ρ σ (λo0 σ1=>Q .next ρ σ1) λx σ1=>X x ρ σ1
 | .ret e,ρ,σ,Q,X=>we G cl e ρ σ (λv σ1=>Q (.ret v) ρ σ1) λx σ1=>X x ρ σ1
 | .if_ t b o,ρ,σ,Q,X=>we G cl t ρ σ (λv σ1=>cU (λc=>if c then wss G cl cu b ρ σ1 Q X else wss G cl cu o ρ σ1 Q X) v) λx σ1=>X x ρ σ1
 | .for_ tg k g b,ρ,σ,Q,X=>(k.isZ=Jd\/G.calm=Jc)/\wes G cl g ρ σ (λvs σ1=>src k vs σ1 λxs chk=>xs.length<=lim/\whid k σ1 λσ1=>forGo chk tg (λρ σ K=>wss G cl cu b ρ σ K λo0 o0 o0=>False) Q xs ρ σ1) λx σ1=>X x ρ σ1
 | .while_ t b,ρ,σ,Q,X=>G.calm=Jc/\∃k,whGo (λρ σ K=>we G cl t ρ σ (λv σ1=>cU (λc=>K c σ1) v) λx σ1=>X x ρ σ1) (λρ σ K=>wss G cl cu b ρ σ K X) Q k ρ σ
 | .raise c args,ρ,σ,_,X=>(G.full=Jc/\G.calm=Jc/\(G.mks.contains c=Jc\/(G.inis.contains c=Jc/\args.length=(G.flds c).length)))/\wes G cl args ρ σ (λvs σ1=>X ⟨c,vs.take (G.flds c).length⟩ ρ σ1) λx σ1=>X x ρ σ1
 | .try1 b c x h,ρ,σ,Q,_=>(G.full=Jc/\G.calm=Jc/\G.cs.contains c=Jc)/\wss G cl cu b ρ σ Q λe j σ1=>
   if G.sub e.c c then mV e σ1 λv O=>wss G.un cu cu h (j.bindX x v) O (λfl D O=>Q fl (D.unX x) O) λo0 o0 o0=>False
   else False
noncomputable def wss(G:Gx)(cl cu:Cl):List S->Rho->PH->SPost->gu->Prop
 |[],ρ,σ,Q,_=>Q .next ρ σ
 |s::r,ρ,σ,Q,X=>ws G cl cu s ρ σ (onFl (λj σ1=>wss G cl cu r j σ1 Q X) Q) X
end
section
variable{G:Gx}{cl cu:Cl}{ρ:Rho}{σ:PH}
section
variable{Q:Post}{X:XPost}
end
section
variable{Q:List PV->PH->Prop}{X:XPost}
end
section
variable{Q:SPost}{X:gu}
end
end
structure Cx where
 prog:Jn
 w:Jm
 B:Ji
 cls:String->Option Jg
 flds:String->List String
 fv:String->Option Jf
 ok:Prop
 calm:Prop
 K:List (Jg×Jp)
 icl:Option Jg
noncomputable def Cx.un(C:Cx):Cx:={C with calm:=False}
noncomputable abbrev tupO(vs:Array Jf)(n:Nat):Jp:={cls:= .type "tuple",dict:=Jb,data:= .seq vs n,slots:= #[]}
noncomputable abbrev lstO(vs:Array Jf)(n:Nat):Jp:={cls:= .type "list",dict:=Jb,data:= .seq vs n,slots:= #[]}
mutual
noncomputable def VR(C:Cx)(σ:PH)(h:Ji):PV->Jf->Prop
 | .none,v=>v= .none
 | .bool b,v=>v= .bool b
 | .int i,v=>∃t,v= .int i t
 | .str s,v=>∃t,v= .str (Qb s) t
 | .tup l,v=>X3 λa n vs=>A4 (v= .ref a) (σ a=Jb) (h.get? a=Ja (tupO vs n))<|VRs C σ h l vs.toList
 | .ref a,v=>v= .ref a
 | .scr l,v=>X4 λa o n vs=>A6 (v= .ref a) (C.B.get? a=Ja o) (o.cls= .type "list") (o.data= .seq vs n) (vs.size=l.length) (∀ (i:Nat) (k:Int),l[i]? =Ja k->∃t,vs[i]? =Ja (Value.int k t))
noncomputable def VRs(C:Cx)(σ:PH)(h:Ji):List PV->List Jf->Prop
 |[],vs=>vs=[]
 |p::ps,vs=>X2 λv r=>A3 (vs=v::r) (VR C σ h p v)<|VRs C σ h ps r
end
inductive FD(C:Cx)(σ:PH)(h:Ji)(c:String)(fs:List PV)(o:Jp):Prop
 |mk (es:Array JR) (ep:Nat) (e:o.data= .dict es ep) (k:StrKeys es) (v:∀ (i:Nat) f p,(C.flds c)[i]? =Ja f->fs[i]? =Ja p->∃v,nsFind es (Qb f)=Ja v/\VR C σ h p v) (n:∀x,(∀f∈C.flds c,x≠Qb f)->nsFind es x=Option.none):FD C σ h c fs o
inductive KeyAt(C:Cx)(σ:PH)(h:Ji)(k:List KA)(a:Jg):Prop
 |mk (n:σ a=Option.none) (vs:Array Jf) (m:Nat) (g:h.get? a=Ja (tupO vs m)) (i:ItemsAre (mk C.prog C.w) k vs.toList):KeyAt C σ h k a
inductive DR(C:Cx)(σ:PH)(h:Ji)(ks:List (List KA))(l:List PV)(o:Jp):Prop
 |mk (es:Array JR) (ep:Nat) (xs:List (List KA×Jg×Jf)) (x:o.ExactDict) (d:o.data= .dict es ep) (e:es.toList=xs.map (JP (tk C.prog C.w))) (k:xs.map (·.1)=ks) (nd:ks.Nodup)
  (ka:∀y∈xs,KeyAt C σ h y.1 y.2.1) (v:VRs C σ h l (xs.map (·.2.2))):DR C σ h ks l o
def OR(C:Cx)(σ:PH)(h:Ji):PO->Jp->Prop
 | .list l,o=>∃v n,o=lstO v n/\VRs C σ h l v.toList
 | .exc c d,o=>X2 λk v=>A6 (C.cls c=Ja k) (o.cls= .ref k) (o.data= .fields v) (v[2]? =Ja .none) (o.dict=d) (∀x,d=Ja x->∃f,σ x=Ja (.fd c f))
 | .hid,o=>∃a b,o=tupO #[a,b] 0
 | .dict s l,o=>DR C σ h s l o
 | .fd c f,o=>FD C σ h c f o
 | .inst d,o=>∃k,A5 (C.icl=Ja k) (o.cls= .ref k) (∀c,o.data≠ .cls c) (o.dict=Ja d) (∃f,σ d=Ja (.fd "Bounds" f))
noncomputable def PO.needs(ok:Prop)(a:Jg):PO->Prop
 | .exc .. =>ok
 | .dict .. =>a≠JE
 |_=>True
structure Sim(C:Cx)(σ:PH)(h:Ji):Prop where
 base:∀b o,C.B.get? b=Ja o->h.get? b=Ja o
 new:∀a o,σ a=Ja o->C.B.get? a=Jb
 objs:∀a o,σ a=Ja o->∃ob,h.get? a=Ja ob/\OR C σ h o ob
 rich:∀a o,σ a=Ja o->o.needs C.ok a
def Like(o o':Jp):Prop:=o'.cls=o.cls/\o'.dict=o.dict/\o'.data=o.data/\((∀e n,o.data≠ .dict e n)->o'.slots=o.slots)
theorem Like.eq{o o':Jp}(x:Like o o')(h:∀es n,o.data≠ .dict es n):o'=o:=by
 obtain⟨c,d,X,l⟩:=o;obtain⟨Q,T,t,s⟩:=o';obtain⟨N,p,J,w⟩:=x;simp only at N p J w;subst N p J;rw[w h]
def isSeq(o:Jp):Prop:=∃x n,o.data= .seq x n
structure Step(S:Jg->Prop)(σ:PH)(h:Ji)(σ':PH)(h':Ji):Prop where
 keep:∀b o,h.get? b=Ja o->σ b=Jb->σ' b=Jb/\∃o',h'.get? b=Ja o'/\((S b->isSeq o)->Like o o')
 grow:∀b o,σ b=Ja o->∃o',σ' b=Ja o'
 fix:∀b o,σ b=Ja o->o.fixed=Jc->σ' b=Ja o
 live:∀b,h'.get? b=Jb->h.get? b=Jb
theorem Like.refl(o:Jp):Like o o:=⟨rfl,rfl,rfl,λo0=>rfl⟩
theorem Like.trans(x:Like a b)(y:Like b c):Like a c:=⟨y.1.trans x.1,y.2.1.trans x.2.1,y.2.2.1.trans x.2.2.1,λh=>(y.2.2.2 (λs n e=>h s n (x.2.2.1.symm.trans e))).trans (x.2.2.2 h)⟩
theorem Like.isSeq(x:Like a b)(y:isSeq a):isSeq b:=by obtain⟨s,n,e⟩:=y;exact⟨s,n,x.2.2.1.trans e⟩
theorem Step.refl(S:Jg->Prop)(σ:PH)(h:Ji):Step S σ h σ h:=⟨λo0 o e s=>⟨s,o,e,λo0=> .refl o⟩,λo0 o e=>⟨o,e⟩,λo0 o0 e o0=>e,λo0 e=>e⟩
theorem Step.trans{S:Jg->Prop}{d K W:PH}(x:Step S d V K p)(y:Step S K p W h):Step S d V W h where
 keep:=λb o e s=>by
  obtain⟨G,i,g,l⟩:=x.keep b o e s;obtain⟨C,z,H,w⟩:=y.keep b i g G;exact⟨C,z,H,λq=>(l q).trans (w λc=>(l q).isSeq (q c))⟩
 grow:=λb o e=>by obtain⟨i,g⟩:=x.grow b o e;exact y.grow b i g
 fix:=λb o e f=>y.fix b o (x.fix b o e f) f
 live:=λb e=>x.live b<|y.live b e
theorem Step.mono{S r:Jg->Prop}{h A:Ji}(x:Step S σ h σ' A)(k:∀b,(h.get? b).isSome->S b->r b):Step r σ h σ' A where
 keep:=λb o e s=>by obtain⟨G,i,g,l⟩:=x.keep b o e s;exact⟨G,i,g,λq=>l λf=>q<|k b (by simp[e]) f⟩
 grow:=x.grow
 fix:=x.fix
 live:=x.live
mutual
theorem VR.step{S:Jg->Prop}(st:Step S σ h σ' A):∀ (p:PV) (v:Jf),VR C σ h p v->VR C σ' A p v
 | .none=>λo0 e=>e
 | .bool _=>λo0 e=>e
 | .int _=>λo0 e=>e
 | .str _=>λo0 e=>e
 | .ref _=>λo0 e=>e
 | .scr _=>λo0 e=>e
 | .tup l=>λv e=>by
  obtain⟨a,n,vs,T,es,w,V⟩:=e;obtain⟨s,o',o,k⟩:=st.keep a _ w es;rw[(k λo0=>⟨vs,n,rfl⟩).eq (by simp)] at o;exact⟨a,n,vs,T,s,o,VRs.step st l _ V⟩
theorem VRs.step{S:Jg->Prop}(st:Step S σ h σ' A):∀ (l:List PV) (vs:List Jf),VRs C σ h l vs->VRs C σ' A l vs
 |[]=>λo0 e=>e
 |p::ps=>λvs e=>by
  obtain⟨v,r,T,w,X⟩:=e;exact⟨v,r,T,VR.step st p v w,VRs.step st ps r X⟩
end
theorem KeyAt.step{S:Jg->Prop}(st:Step S σ h σ' A)(x:KeyAt C σ h k a):KeyAt C σ' A k a:=by
 obtain⟨n,v,m,g,i⟩:=x;obtain⟨X,o,e,l⟩:=st.keep a _ g n;rw[(l λo0=>⟨v,m,rfl⟩).eq (by simp)] at e;exact⟨X,v,m,e,i⟩
theorem OR.step{S:Jg->Prop}(st:Step S σ h σ' W):∀ (p:PO) (o:Jp),OR C σ h p o->OR C σ' W p o:=λp o r=>by
 induction p with
 |list l=>obtain⟨s,n,F,X⟩:=r;exact⟨s,n,F,VRs.step st _ _ X⟩
 |exc=>obtain⟨k,s,T,F,X,A,V,m⟩:=r;exact⟨k,s,T,F,X,A,V,λx q=>(m x q).imp λI w=>st.fix x _ w rfl⟩
 |hid=>exact r
 |dict=>obtain⟨U,H,P,x,d,e,k,nd,a,v⟩:=r;exact⟨U,H,P,x,d,e,k,nd,λy Q=>(a y Q).step st,VRs.step st _ _ v⟩
 |fd=>obtain⟨U,H,e,k,v,z⟩:=r;exact⟨U,H,e,k,λi f p N Y=>(v i f p N Y).imp λu q=>⟨q.1,VR.step st _ _ q.2⟩,z⟩
 |inst d=>obtain⟨k,T,F,X,A,V⟩:=r;exact⟨k,T,F,X,A,V.imp λI w=>st.fix d _ w rfl⟩
def Rest(s s':Je):Prop:=s'.gens=s.gens/\s'.os=s.os
theorem Rest.refl(s:Je):Rest s s:=⟨rfl,rfl⟩
theorem Rest.trans(x:Rest a b)(y:Rest b c):Rest a c:=⟨y.1.trans x.1,y.2.trans x.2⟩
noncomputable def none1:Jg->Prop:=λo0=>False
inductive FF(C:Cx)(x:PX)(σ:PH)(h₀ h:Ji)(od:Option Jg):Prop
 |no (f:x.fs=[]) (e:od=Option.none):FF C x σ h₀ h od
 |at_ (f:x.fs≠ []) (d:Jg) (o:Jp) (e:od=Ja d) (b:C.B.get? d=Option.none) (n:σ d=Option.none) (z:h₀.get? d=Option.none) (g:h.get? d=Ja o) (r:FD C σ h x.c x.fs o):FF C x σ h₀ h od
theorem FF.from{S:Jg->Prop}(f:FF C x σ V h od)(st:Step S B h₀ p V):FF C x σ h₀ h od:=by
 induction f with
 |no f e=>exact .no f e
 |at_ f d o e b n z g r=>exact .at_ f d o e b n (st.live _ z) g r
inductive Fly(C:Cx)(own:Option Jg)(x:PX)(e:Jf)(σ:PH)(h₀ h:Ji):Prop
 |mk (a:Jg) (o:Jp) (vs:Array Jf) (k:Jg) (q1:e= .ref a) (q2:C.B.get? a=Option.none) (q3:σ a=Option.none) (q4:h₀.get? a=Option.none) (q5:h.get? a=Ja o) (q6:C.cls x.c=Ja k) (q7:o.cls= .ref k) (q8:o.data= .fields vs) (q9:vs[2]? =Ja .none)
  (q10:vs[1]? =Ja .none\/X3 λT oT ts=>A8 (vs[1]? =Ja (.ref T)) (T≠a) (C.B.get? T=Option.none) (σ T=Option.none) (h₀.get? T=Option.none) (h.get? T=Ja oT) (oT.data= .fields ts)<|(ts[3]? =Ja .none\/∃L,own=Ja L/\ts[3]? =Ja (Jy L))) (q11:FF C x σ h₀ h o.dict):Fly C own x e σ h₀ h
theorem Fly.from{S:Jg->Prop}{own:Option Jg}{σ B d:PH}(f:Fly C own x e σ V h)(st:Step S B h₀ d V):Fly C own x e σ h₀ h:=by
 obtain⟨a,o,v,k,c,Z,Q,N,j,P,M,n,F,J,q⟩:=f;refine⟨a,o,v,k,c,Z,Q,st.live _ N,j,P,M,n,F,J.imp id ?_,q.from st⟩;rintro ⟨T,W,t,A,w,O,D,z,r,y,U⟩;exact⟨T,W,t,A,w,O,D,st.live _ z,r,y,U⟩
theorem Fly.weak{own:Option Jg}(f:Fly C Jb x e σ h₀ h):Fly C own x e σ h₀ h:=by
 obtain⟨a,o,v,k,c,Z,Q,N,j,P,K,n,F,J,q⟩:=f;refine⟨a,o,v,k,c,Z,Q,N,j,P,K,n,F,J.imp id ?_,q⟩;rintro ⟨T,W,t,A,w,B,D,d,r,y,U⟩;exact⟨T,W,t,A,w,B,D,d,r,y,U.imp id λM=>by obtain⟨L,z,o0⟩:=M;exact(ns z)⟩
inductive VP(C:Cx)(S:Jg->Prop)(σ:PH)(s:Je)(Q:Post)(v:Jf)(s':Je):Prop
 |mk (p:PV) (σ':PH) (a:VR C σ' s'.heap p v) (b:Sim C σ' s'.heap) (c:Step S σ s.heap σ' s'.heap) (d:Rest s s') (e:Q p σ'):VP C S σ s Q v s'
inductive VPs(C:Cx)(S:Jg->Prop)(σ:PH)(s:Je)(Q:List PV->PH->Prop)(v:List Jf)(s':Je):Prop
 |mk (p:List PV) (σ':PH) (a:VRs C σ' s'.heap p v) (b:Sim C σ' s'.heap) (c:Step S σ s.heap σ' s'.heap) (d:Rest s s') (e:Q p σ'):VPs C S σ s Q v s'
inductive XP(C:Cx)(S:Jg->Prop)(σ:PH)(s:Je)(X:XPost)(e:Jf)(s':Je):Prop
 |mk (x:PX) (σ':PH) (a:Fly C Option.none x e σ' s.heap s'.heap) (b:Sim C σ' s'.heap) (c:Step S σ s.heap σ' s'.heap) (d:Rest s s') (q:X x σ'):XP C S σ s X e s'
theorem VP.from{S:Jg->Prop}{s s₁:Je}(st:Step S σ s.heap o s₁.heap)(r:Rest s s₁)(x:VP C S o s₁ Q v s'):VP C S σ s Q v s':=
 by obtain⟨p,X,a,b,c,d,e⟩:=x;exact⟨p,X,a,b,st.trans c,r.trans d,e⟩
theorem XP.from{S:Jg->Prop}{s s₁:Je}(st:Step S σ s.heap o s₁.heap)(r:Rest s s₁)(x:XP C S o s₁ X v s'):XP C S σ s X v s':=
 by obtain⟨p,T,a,b,c,d,e⟩:=x;exact⟨p,T,a.from st,b,st.trans c,r.trans d,e⟩
def Frs(C:Cx)(σ:PH)(h:Ji)(l:List Js):Prop:=
 ∀e∈l,e.scope.kind≠ .module/\X4 λL o s n=>A5 (e.frame=Ja L) (C.B.get? L=Jb) (σ L=Jb) (h.get? L=Ja o)<|o.data= .dict s n
theorem Frs.step{S:Jg->Prop}(f:Frs C σ h l)(st:Step S σ h σ' A)(E:∀env∈l,∀L,env.frame=Ja L->¬S L):Frs C σ' A l:=λenv O=>by
 obtain⟨k,L,o,U,n,e,w,X,u,V⟩:=f env O;obtain⟨q,i,m,N⟩:=st.keep L o u X;have N:=N λs=>absurd s<|E env O L e;exact⟨k,L,i,U,n,e,w,q,m,N.2.2.1.trans V⟩
theorem Frs.fun{C:Cx}{h:Ji}:∀ {l:List Js},Frs C σ h l->h.FunFrames C.B l
 |[]=>λo0=>trivial
 |env::r=>λf=>by
  obtain⟨k,L,o,s,n,T,w,X,u,V⟩:=f env<|.head _;exact⟨k,⟨L,o,T,w,u,λv q=>by rw[V] at q;cases q⟩,Frs.fun λe O=>f e<|.tail _ O⟩
def HdR(A:Jj)(σ:PH):Prop:=A.handled=Jb\/X3 λa c d=>A.handled=Ja (.ref a)/\σ a=Ja (.exc c d)
theorem HdR.step{S:Jg->Prop}(x:HdR A σ)(st:Step S σ h σ' W):HdR A σ':=x.imp id λz=>by obtain⟨a,c,d,e,q⟩:=z;exact⟨a,c,d,e,st.fix a _ q rfl⟩
theorem HdR.ok(x:HdR A σ)(m:Sim C σ h):HOK A h:=x.imp id λz=>by obtain⟨a,c,d,e,q⟩:=z;obtain⟨o,g,_,v,_,_,f,w,_,_⟩:=m.objs a _ q;exact⟨a,o,v,e,g,f,w⟩
structure AOK(C:Cx)(n:Nat)(A:Jj)(l:List Js)(σ:PH)(h:Ji):Prop where
 depth:A.depth+n+2<J7
 units:A.units+30*n+300<cLine
 stack:A.frames=Ja l
 frs:Frs C σ h l
 calm:C.calm->A.handled=Jb
 hd:HdR A σ
structure EnvR(C:Cx)(env:Js)(ρ:Rho)(σ:PH)(h:Ji):Prop where
 fn:env.scope.kind= .function
 glob:env.globals=JB
 blt:env.builtins=builtinsNs
 ns:∃m,h.Ns env.locals m/\∀x p,ρ.get x=Ja p->env.kindOf (Qb x)=Ja .local->∃v,m (Qb x)=Ja v/\VR C σ h p v
 cell:∀x p,ρ.get x=Ja p->env.kindOf (Qb x)=Ja .cell\/env.kindOf (Qb x)=Ja .free->X2 λc v=>A3 (env.cells.lookup (Qb x)=Ja c) (h.IsCell c<|Ja v)<|VR C σ h p v
 newL:σ env.locals=Jb
 baseL:C.B.get? env.locals=Jb
 baseC:∀x c,env.cells.lookup x=Ja c->C.B.get? c=Jb
 newC:∀x c,env.cells.lookup x=Ja c->σ c=Jb/\∃v,h.IsCell c v
 apart:∀x y c,env.cells.lookup x=Ja c->env.cells.lookup y=Ja c->x=y
 hasC:∀x,env.kindOf x=Ja .cell\/env.kindOf x=Ja .free->∃c,env.cells.lookup x=Ja c
theorem Ns.like{h A:Ji}{m:Jq->Option Jf}(x:h.Ns a m)(k:∀o,h.get? a=Ja o->∃o',A.get? a=Ja o'/\Like o o'):A.Ns a m:=
 by obtain⟨o,s,p,e,r⟩:=x;obtain⟨o',g,l⟩:=k o e;exact⟨o',s,p,g,l.2.2.1.trans r.1,r.2⟩
theorem IsCell.like{h A:Ji}(x:h.IsCell a v)(k:∀o,h.get? a=Ja o->∃o',A.get? a=Ja o'/\Like o o'):A.IsCell a v:=
 by obtain⟨o,e,r⟩:=x;obtain⟨o',g,l⟩:=k o e;exact⟨o',g,l.2.2.1.trans r⟩
theorem EnvR.step(x:EnvR C env L σ h)(st:Step none1 σ h σ' A):EnvR C env L σ' A where
 fn:=x.fn
 glob:=x.glob
 blt:=x.blt
 ns:=by
  obtain⟨m,n,hv⟩:=x.ns;refine⟨m,Ns.like n λo e=> ?_,λy p T w=>by obtain⟨v,a,b⟩:=hv y p T w;exact⟨v,a,b.step st⟩⟩;obtain⟨o0,i,g,l⟩:=st.keep _ o e x.newL;exact⟨i,g,l λf=>f.elim⟩
 cell:=λy p T w=>by
  obtain⟨c,v,a,b,d⟩:=x.cell y p T w;refine⟨c,v,a,IsCell.like b λo e=> ?_,d.step st⟩;obtain⟨o0,i,g,l⟩:=st.keep _ o e (x.newC _ c a).1;exact⟨i,g,l λf=>f.elim⟩
 newL:=by
  obtain⟨m,⟨o,U,s,e,o0⟩,o0⟩:=x.ns;exact(st.keep _ o e x.newL).1
 newC:=λy c e=>by
  obtain⟨a,v,o,b,d⟩:=x.newC y c e;obtain⟨q,i,g,l⟩:=st.keep _ o b a;exact⟨q,v,i,g,(l λf=>f.elim).2.2.1.trans d⟩
 baseL:=x.baseL
 baseC:=x.baseC
 apart:=x.apart
 hasC:=x.hasC
theorem AOK.step{h S:Ji}(x:AOK C n A l σ h)(st:Step none1 σ h σ' S):AOK C n A l σ' S:=
 ⟨x.depth,x.units,x.stack,x.frs.step st λo0 o0 o0 o0 f=>f,x.calm,x.hd.step st⟩
noncomputable def nm(y:Jq)(x:String):Bool:=y==Qb x
noncomputable def isLoc(sc:Jk)(y:Jq):Bool:=sc.names.lookup y==Ja .local||sc.names.lookup y==Ja .cell||sc.names.lookup y==Ja .free
noncomputable def isOwn(sc:Jk)(y:Jq):Bool:=sc.names.lookup y==Ja .local||sc.names.lookup y==Ja .cell
noncomputable def nH(sc:Jk)(y:Jq):Bool:=sc.names.lookup y==Ja .globalImplicit
noncomputable def bB(y:Jq):Bool:= !(y==("__debug__":Jq))&& !(y==("__classdict__":Jq))
noncomputable def BOp.py:BOp->Operator
 | .add=> .Add| .sub=> .Sub| .mul=> .Mult| .fdiv=> .FloorDiv| .mod=> .Mod| .pow _=> .Pow
noncomputable def COp.py:COp->CmpOp
 | .eq=> .Eq| .ne=> .NotEq| .lt=> .Lt| .le=> .LtE| .gt _=> .Gt| .ge=> .GtE| .in_=> .In| .nin=> .NotIn
noncomputable def mOp(a:BOp)(o:Operator):Bool:=decide<|o=a.py
noncomputable def mC(a:COp)(o:CmpOp):Bool:=decide<|o=a.py
noncomputable def BI.nm:BI->String
 | .len=>"len"| .all=>"all"| .sum=>"sum"| .int=>"int"| .list=>"list"| .min=>"min"| .sorted=>"sorted"| .dict _=>"dict"
noncomputable def Me.nm:Me->String
 | .append=>"append"
def glb(sc:Jk)(x:String):Jl->Bool
 | .Name y _=>Vl.Internal.nm y x&&nH sc y&&bB y
 |_=>Jd
noncomputable def eC(sc:Jk):List String->List Jl->Bool
 |[],[]=>Jc
 |x::s,.Name y _::r=>Vl.Internal.nm y x&&isOwn sc y&&bB y&& !s.contains x&&eC sc s r
 |_,_=>Jd
def mTg(sc:Jk):Tg->Jl->Bool
 | .name x,.Name y _=>Vl.Internal.nm y x&&isOwn sc y&&bB y
 | .tup s,.Tuple e _ _=>eC sc s e
 |_,_=>Jd
noncomputable def jH(sc:Jk):List String->List Jl->Bool
 |[],[]=>Jc
 |t::v,e::s=>glb sc t e&&jH sc v s
 |_,_=>Jd
noncomputable def oneT(f:String->Bool):List String->Bool
 |[t]=>f t
 |_=>Jd
def mType(sc:Jk)(ts:List String):Jl->Bool
 | .Tuple s _ _=>jH sc ts s&&(decide (2<=s.length)&&decide (s.length<=100))
 |e=>oneT (λt=>glb sc t e) ts
noncomputable def eY(sc s:Jk):Bool:=
 s.kind== .function&& !s.isGenerator&& !s.isCoroutine&&(s.names.all λ(n,k)=>k != .free||sc.names.lookup n==Ja .cell||sc.names.lookup n==Ja .free)&&
 (s.names.all λ(n,k)=>s.names.lookup n==Ja k)&&decide ((s.names.map (·.1)).Nodup)
noncomputable def ownOk(tg:Tg)(s:Jk):Bool:=s.names.all λ(n,k)=>(k != .local&&k != .cell)||(".0"::tg.names).any λx=>Vl.Internal.nm n x
noncomputable def bZ(f:String):Bool:= !f.toList.contains '.'
noncomputable def ei:Jl->Bool
 | .Call _ [] _ _=>Jd
 |_=>Jc
noncomputable def xk:Jl->Nat
 | .Constant .. =>0| .Name .. =>1| .BinOp .. =>2| .UnaryOp .. =>3| .BoolOp .. =>4| .Compare .. =>5| .Tuple .. =>7| .List .. =>8| .Subscript .. =>10| .ListComp .. =>11| .Call .. =>12| .Attribute .. =>13| .Slice .. =>14| .Dict .. =>15
 |_=>99
def kz(x:Jl):Bool:= !(xk x==99)
noncomputable def sk:Jo->Nat
 | .Assign .. =>0| .Expr .. =>1| .Return .. =>2| .If .. =>3| .For .. =>4| .While .. =>5| .Raise .. =>6| .Try .. =>7
 |_=>99
abbrev XB:=Jl->Bool
noncomputable def vP(f:Const->Bool):XB| .Constant c _ _=>f c|_=>Jd
def qName(f:Jq->Bool)(x:String):XB| .Name y _=>Vl.Internal.nm y x&&f y&&bB y|_=>Jd
def qBin(p:BOp)(f g:XB):XB| .BinOp l o r _=>mOp p o&&f l&&g r|_=>Jd
noncomputable def qUn(u:UnaryOp)(f:XB):XB| .UnaryOp o x _=>decide (o=u)&&f x|_=>Jd
noncomputable def qBool(u:BoolOp)(f g:XB):XB
 | .BoolOp o [x,y] _=>decide (o=u)&&(f x&&g y)
 | .BoolOp o (x::y::z::r) p=>decide (o=u)&&(f x&&g (.BoolOp o (y::z::r) p))
 |_=>Jd
noncomputable def qIs(u:CmpOp)(f g:XB):XB| .Compare l [o] [c] _=>decide (o=u)&&(f l&&g c)|_=>Jd
def qCmp(p:COp)(f g:XB):XB| .Compare l [o] [r] _=>mC p o&&f l&&g r&& !(JI o r)|_=>Jd
def qCmp2(o P:COp)(f g h:XB):XB| .Compare l [n,p] [m,r] _=>mC o n&&mC P p&&f l&&g m&&h r&& !(JI p r)|_=>Jd
noncomputable def qTup(f:List Jl->Bool):XB| .Tuple e _ _=>f e&&decide (e.length<=100)|_=>Jd
noncomputable def qList(f:List Jl->Bool):XB| .List es _=>f es&&decide (es.length<=100)|_=>Jd
noncomputable def qSub(f g:XB):XB| .Subscript x y _=>f x&&g y|_=>Jd
noncomputable def qTo(g:XB):XB| .Slice Jb (Ja y) Jb _=>g y|_=>Jd
noncomputable def qFrom(g:XB):XB| .Slice (Ja y) Jb Jb _=>g y|_=>Jd
def qComp(sc:Jk)(tg:Tg)(f:XB)(g:Jk->XB):XB| .ListComp e [⟨t,i,[],a⟩] s _=>decide (a=0)&&(f i&&mTg s tg t&&g s e&&eY sc s&&ownOk tg s)|_=>Jd
def rh(sc:Jk)(tg:Tg)(f:XB)(g h:Jk->XB):XB| .ListComp e [⟨t,i,[c],a⟩] s _=>decide (a=0)&&(f i&&mTg s tg t&&g s e&&h s c&&eY sc s&&ownOk tg s)|_=>Jd
noncomputable def qCall(f:XB)(g:List Jl->Bool):XB| .Call x as [] _=>f x&&g as|_=>Jd
noncomputable def qMeth(f:Y8->XB)(g:List Jl->Bool):XB| .Call x as [] q=>f q x&&g as|_=>Jd
def qAttr(a:String)(f:XB)(g:Y8->Bool):XB| .Attribute x y p=>f x&&ei x&&Vl.Internal.nm y a&&g p|_=>Jd
noncomputable def one1(f:XB):List Jl->Bool|[x]=>f x|_=>Jd
noncomputable def two2(f g:XB):List Jl->Bool|[x,y]=>f x&&g y|_=>Jd
def hCst(c:Const):XB:=λx=>xk x==0&&vP (λd=>decide (d=c)) x
def hNone:XB:=hCst .none
def hName(f:Jq->Bool)(x:String):XB:=λe=>xk e==1&&qName f x e
def hBin(o:BOp)(f g:XB):XB:=λx=>xk x==2&&qBin o f g x
def hNot(f:XB):XB:=λx=>xk x==3&&qUn .Not f x
def hAnd(f g:XB):XB:=λx=>xk x==4&&qBool .And f g x
def hOr(f g:XB):XB:=λx=>xk x==4&&qBool .Or f g x
def wj(f:XB):XB:=λx=>xk x==5&&qIs .Is f hNone x
def tD(f:XB):XB:=λx=>xk x==5&&qIs .IsNot f hNone x
def hCmp(o:COp)(f g:XB):XB:=λx=>xk x==5&&qCmp o f g x
def hCmp2(o P:COp)(f g h:XB):XB:=λx=>xk x==5&&qCmp2 o P f g h x
def hTup(f:List Jl->Bool):XB:=λx=>xk x==7&&qTup f x
def hList(f:List Jl->Bool):XB:=λx=>xk x==8&&qList f x
def hSub(f g:XB):XB:=λx=>xk x==10&&qSub f g x
def hTo(g:XB):XB:=λx=>xk x==14&&qTo g x
def hFr(g:XB):XB:=λx=>xk x==14&&qFrom g x
def hUpto(f g:XB):XB:=hSub f<|hTo g
def hFrom(f g:XB):XB:=hSub f<|hFr g
def hComp(sc:Jk)(tg:Tg)(f:XB)(g:Jk->XB):XB:=λx=>xk x==11&&qComp sc tg f g x
def rl(sc:Jk)(tg:Tg)(f:XB)(g h:Jk->XB):XB:=λx=>xk x==11&&rh sc tg f g h x
def hCl(f:XB)(g:List Jl->Bool):XB:=λx=>xk x==12&&qCall f g x
def hCall(sc:Jk)(n:String)(f:List Jl->Bool):XB:=hCl (λx=>glb sc n x&&bZ n) λas=>f as&&decide (as.length<=20)
def hBi1(sc:Jk)(n:String)(f:List Jl->Bool):XB:=hCl (glb sc n) λas=>f as&&decide (as.length<=20)
def hIsi(sc:Jk)(ts:List String)(f:XB):XB:=hCl (glb sc "isinstance")<|two2 f (mType sc ts)
def hAt(a:String)(f:XB)(g:Y8->Bool):XB:=λx=>xk x==13&&qAttr a f g x
noncomputable def uS:XB| .Dict [] [] _=>Jc|_=>Jd
def uF:XB:=λx=>xk x==15&&uS x
def hEmp:XB:=hList λe=>e.isEmpty
noncomputable def mOf(f:String):String:=String.ofList<|f.toList.drop 7
def hMc(m:String)(f:XB)(g:List Jl->Bool):XB:=λx=>xk x==12&&qMeth (λq=>hAt m f λp=>p.endLine==q.line) g x
def hAttr(a:String)(f:XB):XB:=hAt a f λo0=>Jc
noncomputable def Tg.isTup:Tg->Bool| .tup _=>Jc|_=>Jd
def qIt(sc:Jk)(k:IK)(tg:Tg)(f:List Jl->Bool):XB:=match k with
 | .val=>λx=>f [x]
 | .range=>hCl (glb sc "range") λas=>f as&&decide (as.length=1)
 | .zip=>hCl (glb sc "zip") λas=>f as&&(decide (as.length=2)&&tg.isTup)
mutual
noncomputable def mE(sc:Jk):E->Jl->Bool
 | .none=>hNone
 | .bool b=>hCst<|.bool b
 | .int i=>hCst<|.int i
 | .str s=>hCst<|.str (Qb s)
 | .loc x=>hName (isLoc sc) x
 | .glob x=>hName (nH sc) x
 | .bin op a b=>hBin op (mE sc a)<|mE sc b
 | .not_ a=>hNot<|mE sc a
 | .and_ a b=>hAnd (mE sc a)<|mE sc b
 | .or_ a b=>hOr (mE sc a)<|mE sc b
 | .isNone a=>wj<|mE sc a
 | .notNone a=>tD<|mE sc a
 | .cmp op a b=>hCmp op (mE sc a)<|mE sc b
 | .cmp2 a o1 b o2 c=>hCmp2 o1 o2 (mE sc a) (mE sc b)<|mE sc c
 | .tup l=>hTup<|mEs sc l
 | .list l=>hList<|mEs sc l
 | .sub a i=>hSub (mE sc a)<|mE sc i
 | .upto a i=>hUpto (mE sc a)<|mE sc i
 | .from_ a i=>hFrom (mE sc a)<|mE sc i
 | .comp elt tg k it=>hComp sc tg (qIt sc k tg (mEs sc it)) λsc'=>mE sc' elt
 | .compIf elt tg k it c=>rl sc tg (qIt sc k tg (mEs sc it)) (λsc'=>mE sc' elt) λsc'=>mE sc' c
 | .call f args=>hCall sc f<|mEs sc args
 | .bi b args=>hBi1 sc b.nm<|mEs sc args
 | .isi a ts=>hIsi sc ts λx=>kz x&&mE sc a x
 | .meth o m args=>hMc m.nm (mE sc o) λas=>mEs sc args as&&decide (as.length=1)
 | .dict0=>uF
 | .get a k=>hMc "get" (mE sc a) (two2 (λx=>kz x&&mE sc k x) hEmp)
 | .sd a k=>hMc "setdefault" (mE sc a) (two2 (λx=>kz x&&mE sc k x) hEmp)
 | .attr x f=>hAttr f<|hName (isLoc sc) x
 | .mcall f o args=>hMc (mOf f) (mE sc o) λas=>mEs sc args as&&(decide (as.length<=20)&& !bZ f)
 | .cnt ix a=>hMc (cond ix "index" "count") (mE sc a)<|one1 (hCst<|.bool Jc)
noncomputable def mEs(sc:Jk):List E->List Jl->Bool
 |[],[]=>Jc
 |a::as,x::xs=>(kz x&&mE sc a x)&&mEs sc as xs
 |_,_=>Jd
end
def mIt(sc:Jk)(k:IK)(tg:Tg)(i:List E):XB:=qIt sc k tg<|mEs sc i
noncomputable def E.isC:E->Bool
 | .comp .. | .compIf .. =>Jc
 |_=>Jd
noncomputable def jV(sc:Jk)(x:String):Option Jq->Bool
 |none=>x==""
 |some y=>x !=""&&Vl.Internal.nm y x&&sc.names.lookup y==Ja .local
abbrev SB:=Jo->Bool
abbrev SBs:=List Jo->Bool
noncomputable def rAsg(f h:XB):SB| .Assign [t] v _=>f t&&h v|_=>Jd
noncomputable def rExpr(f:XB):SB| .Expr v _=>f v|_=>Jd
noncomputable def rRet(f:XB):SB| .Return (Ja v) _=>f v|_=>Jd
noncomputable def rIf(f:XB)(g h:SBs):SB| .If x y z _=>f x&&g y&&h z|_=>Jd
noncomputable def rFor(f g:XB)(h:SBs):SB| .For t i y [] _=>f t&&g i&&h y|_=>Jd
noncomputable def vo(f:XB)(h:SBs):SB| .While t y [] _=>f t&&h y|_=>Jd
noncomputable def tQ(f:XB):SB| .Raise (Ja x) Jb _=>f x|_=>Jd
noncomputable def rTry(f:SBs)(g:List YI->Bool):SB| .Try y h [] [] _=>f y&&g h|_=>Jd
def rHd(sc:Jk)(c x:String)(g:SBs):YI->Bool| .ExceptHandler (Ja t) n (z::r) _=>glb sc c t&&jV sc x n&&g (z::r)|_=>Jd
noncomputable def rH1(f:YI->Bool):List YI->Bool|[h]=>f h|_=>Jd
def hOwn(sc:Jk)(x:String):XB:=λe=>xk e==1&&qName (isOwn sc) x e
noncomputable def qTupT(f:List Jl->Bool):XB| .Tuple e _ _=>f e|_=>Jd
def hTupT(f:List Jl->Bool):XB:=λe=>xk e==7&&qTupT f e
def kAsg(f h:XB):SB:=λx=>sk x==0&&rAsg f h x
def kExpr(f:XB):SB:=λx=>sk x==1&&rExpr f x
def kRet(f:XB):SB:=λx=>sk x==2&&rRet f x
def kIf(f:XB)(g h:SBs):SB:=λx=>sk x==3&&rIf f g h x
def kFor(f g:XB)(h:SBs):SB:=λx=>sk x==4&&rFor f g h x
def tI(f:XB)(h:SBs):SB:=λx=>sk x==5&&vo f h x
def tC(f:XB):SB:=λx=>sk x==6&&tQ f x
def kTry(f:SBs)(g:List YI->Bool):SB:=λx=>sk x==7&&rTry f g x
mutual
noncomputable def mS(sc:Jk):S->Jo->Bool
 | .assign (.name x) e=>kAsg (hOwn sc x) λv=>(kz v&&(!(xk v==11)||e.isC))&&mE sc e v
 | .assign (.tup xs) e=>kAsg (hTupT (eC sc xs)) λv=>(kz v&& !(xk v==7))&&mE sc e v
 | .setIdx o i e=>kAsg (hSub (mE sc o) (mE sc i)) λv=>kz v&&mE sc e v
 | .expr e=>kExpr λv=>xk v==12&&mE sc e v
 | .ret e=>kRet<|mE sc e
 | .if_ t b o=>kIf (mE sc t) (mSs sc b)<|mSs sc o
 | .for_ tg k it b=>kFor (mTg sc tg) (mIt sc k tg it)<|mSs sc b
 | .while_ t b=>tI (mE sc t)<|mSs sc b
 | .raise c args=>tC<|hBi1 sc c (mEs sc args)
 | .try1 b c x h=>kTry (mSs sc b)<|rH1 (rHd sc c x<|mSs sc h)
noncomputable def mSs(sc:Jk):List S->List Jo->Bool
 |[],[]=>Jc
 |a::as,x::xs=>mS sc a x&&mSs sc as xs
 |_,_=>Jd
end
section
open PySem.W PyProof.Rows
structure Fn where
 f:String
 ps:List String
 ls:List String
 b:List S
structure Cls where
 a1:String
 f1:String
 f2:String
 e1:E
 e2:E
 ms:List Fn
structure Kinds where
 cs:List String
 mks:List String
 inis:List String
 flds:String->List String
 sub:String->String->Bool
 cl:Option Cls
noncomputable def ck(K:Frag)(c:String):Option Jg:=match nsIn K JB (Qb c) with
 |some (Ja (.ref a))=>Ja a
 |_=>Jb
noncomputable def dh(K:Frag)(D:Jg):Bool:=
 ((findIn K (.ref D) "__getattribute__"==Ja (Ja<|.builtin "BaseException.__getattribute__"))&&(findIn K (.ref D) "__getattr__"==Ja Jb)&&(subIn K (.ref D) (.type "BaseException")==Ja Jc))&&hasDictIn K D&&(findIn K (.ref D) "__class__"==Ja (Ja<|.builtin "object.__class__"))&&(specialIn K (.builtin "object.__class__") "__get__"==Ja (Ja<|.builtin "getset_descriptor.__get__"))&&
 (takesIn K (.builtin "object.__class__")==Ja Jc)&&(mroIn K D (.type "object")==Ja Jc)&&(mroIn K D (.ref D)==Ja Jc)
def vr(K:Frag)(k:Kinds)(c:String):Bool:=match ck K c with
 |some a=>dh K a&&(exmOne K (.ref a) (.type "ValueError")==Ja (k.sub c "ValueError"))&&((k.flds c).all λf=>findIn K (.ref a) (Qb f)==Ja Jb)&&k.cs.all λd=>match ck K d with
  |some b=>exmOne K (.ref a) (.ref b)==Ja (k.sub c d)
  |none=>Jd
 |none=>Jd
def kC(K:Frag)(k:Kinds):Bool:=k.cs.all<|vr K k
noncomputable def zg(o:Jp):List Jg:=match o.data with
 | .cls cd=>[cd.ns]
 |_=>[]
def zT(h:Ji)(cs:List String):List Jg:=JB::cs.flatMap λc=>match h.nsMap JB (Qb c) with
 |some (.ref a)=>match h.get? a with
  |some o=>a::zg o
  |none=>[]
 |_=>[]
noncomputable def ie(h:Ji)(as:List Jg):Frag:=as.filterMap λa=>(h.get? a).map λo=>(a,o)
noncomputable def mIni(sc:Jk):List String->List Jo->Bool
 |[],[]=>Jc
 |x::xs,y::ys=>kAsg (hAttr x<|hName (isLoc sc) "self") (hName (isLoc sc) x) y&&mIni sc xs ys
 |_,_=>Jd
noncomputable def mR(ps:List String):Arguments->Bool
 |⟨[],as,Jb,[],_,Jb,_⟩=>as.map (·.arg)==ps.map Qb
 |_=>Jd
noncomputable def refOf:Option Jf->Option Jg
 |some (.ref a)=>Ja a
 |_=>Jb
noncomputable def clsOf:Data->Option ClassData
 | .cls cd=>Ja cd
 |_=>Jb
noncomputable def nI(h:Ji):List Jf->Bool
 |[]=>Jd
 |v::tl=>(v::tl==bmE)||(refOf (Ja v)).any λA=>(h.get? A).any λo=>(clsOf o.data).any λcd=>h.isNs cd.ns&&(h.nsMap cd.ns "__init__").isNone&&nI h tl
def fnIni(h:Ji)(fd:Jr)(names:List String)(body:List Jo):Bool:=
 (h.codeRecOk fd.code fd.qualname&&fd.closure.isEmpty&&(fd.defaults== .none))&&(mR ("self"::names) fd.params&&(("self"::names).all λx=>fd.scope.names.lookup (Qb x)==Ja .local&& !(Qb x==("__debug__":Jq)))&&decide ("self"::names).Nodup)&&
  (!fd.scope.isCoroutine&& !fd.scope.isGenerator&&(fd.scope.kind== .function))&&mIni fd.scope names body
noncomputable def qa:FuncBody->Option (List Jo)
 | .stmts b=>Ja b
 |_=>Jb
noncomputable def pQ:Data->Option Jr
 | .func fd=>Ja fd
 |_=>Jb
def fnObj(h:Ji)(names:List String)(o:Jp):Bool:=(o.cls== .type "function")&&((pQ o.data).any λfd=>(qa fd.body).any λbody=>fnIni h fd names body)
noncomputable def qL(l:List (Option Jf)):Bool:=l==[l[0]?.getD Jb,l[1]?.getD Jb,l[2]?.getD Jb,l[3]?.getD Jb,Ja<|.builtin "ValueError.__new__",l[5]?.getD Jb]
def mroOK(h:Ji)(k:Jg):List Jf->Bool
 |v::bm=>(v== .ref k)&&nI h bm
 |[]=>Jd
def zY(h:Ji)(k:Jg)(names:List String)(o:Jp)(cd:ClassData):Bool:=
 ((o.cls== .type "type")&&qL o.slots.toList&&mroOK h k cd.mro)&&(cd.hasDict&& !cd.hasDel&&h.isNs cd.ns)&&((refOf<|h.nsMap cd.ns "__init__").any λfI=>(h.get? fI).any (fnObj h names))
def iniOK(h:Ji)(K:Frag)(k:Jg)(names:List String):Bool:=
 ((h.get? k).any λo=>(clsOf o.data).any (zY h k names o))&&(findIn K (.ref k) "__setattr__"==Ja (Ja<|.builtin "object.__setattr__"))&& !names.isEmpty&&decide (names.length<=50)
def zt(h:Ji)(K:Frag)(k:Kinds):Bool:=k.inis.all λc=>k.cs.contains c&&((ck K c).any λa=>iniOK h K a (k.flds c))
def mAsg(sc:Jk)(f:String)(e:E):Jo->Bool:=kAsg (hAttr f (hName (isLoc sc) "self")) λv=>kz v&&mE sc e v
def fnB(h:Ji)(ps:List String)(fd:Jr):Bool:=
 (h.codeRecOk fd.code fd.qualname&&fd.closure.isEmpty&&(fd.defaults== .none))&&(fd.globals==JB&&(fd.builtins==builtinsNs)&&mR ps fd.params)&&
  ((ps.all λp=>fd.scope.names.lookup (Qb p)==Ja .local||fd.scope.names.lookup (Qb p)==Ja .cell)&&decide ps.Nodup&&(fd.scope.names.all λp=>p.2 != .free))&&(!fd.scope.isCoroutine&& !fd.scope.isGenerator&&(fd.scope.kind== .function))
def p9(h:Ji)(ps:List String)(mt:Jk->List Jo->Bool)(a:Jg):Bool:=(h.get? a).any λo=>(o.cls== .type "function")&&((pQ o.data).any λfd=>(qa fd.body).any λb=>fnB h ps fd&&mt fd.scope b)
def initM(c:Cls)(sc:Jk):List Jo->Bool
 |[y1,y2]=>mAsg sc c.f1 c.e1 y1&&mAsg sc c.f2 c.e2 y2
 |_=>Jd
noncomputable def tL(l:List (Option Jf)):Bool:=l==[l[0]?.getD Jb,l[1]?.getD Jb,l[2]?.getD Jb,l[3]?.getD Jb,Ja<|.builtin "object.__new__",l[5]?.getD Jb]
def yx(h:Ji)(c:Cls)(a:Jg)(o:Jp)(cd:ClassData):Bool:=
 ((o.cls== .type "type")&&tL o.slots.toList&&(cd.mro==[.ref a,.type "object"]))&&(cd.hasDict&& !cd.hasDel&& !cd.abstract)&&(h.isNs cd.ns&&(h.nsMap cd.ns "__setattr__").isNone&&([c.f1,c.f2].all λf=>(h.nsMap cd.ns<|Qb f).isNone&&(fastLookup "object" (Qb f)==Ja Jb)))&&
  ((refOf<|h.nsMap cd.ns "__init__").any (p9 h ["self",c.a1] (initM c)))
def methB(h:Ji)(K:Frag)(c:Cls)(a:Jg)(t:Fn):Bool:= !bZ t.f&& !([c.f1,c.f2].contains (mOf t.f))&&((refOf ((findIn K (.ref a) (Qb (mOf t.f))).getD Jb)).any λm=>(typeIn K (.ref m)==Ja (.type "function"))&&p9 h t.ps (λsc b=>mSs sc t.b b) m)
def clsB(h:Ji)(K:Frag)(c:Cls)(a:Jg):Bool:=
 ((h.get? a).any λo=>(clsOf o.data).any (yx h c a o))&&((findIn K (.ref a) "__getattribute__"==Ja (Ja<|.builtin "object.__getattribute__"))&&(findIn K (.ref a) "__getattr__"==Ja Jb)&&hasDictIn K a&&([c.f1,c.f2].all λf=>findIn K (.ref a) (Qb f)==Ja Jb))&&
  c.ms.all (methB h K c a)&&decide (c.f1≠c.f2)
def wQ(h:Ji)(c:Cls):List Jg:=((refOf (h.nsMap JB (Qb "Bounds"))).bind λa=>(h.get? a).bind λo=>(clsOf o.data).map λcd=>c.ms.filterMap λt=>refOf (h.nsMap cd.ns (Qb (mOf t.f)))).getD []
def kFrag(h:Ji)(k:Kinds):Frag:=ie h<|zT h (k.cs++["Bounds"])++(k.cl.map<|wQ h).getD []
def clsK(h:Ji)(K:Frag)(k:Kinds):Bool:=match k.cl with
 |some c=>(ck K "Bounds").any (clsB h K c)
 |none=>Jc
noncomputable def c7:Fn:=⟨"Bounds.greatest",["self","place","enough"],["counts","goal","came","raised","lowered","start","amount"],
 [.assign (.name "counts") (.bi (.dict ()) [.attr "self" "counts"]),
  .assign (.name "goal") (.tup [.glob "ROW",.sub (.loc "place") (.int 0)]),
  .while_ (.bool Jc) [.assign (.name "came") (.call "reached" [.attr "self" "near",.loc "counts",.list [.tup [.glob "COLUMN",.sub (.loc "place") (.int 1)]],.loc "place"]),.if_ (.or_ (.cmp .nin (.loc "goal") (.loc "came")) (.and_ (.notNone (.loc "enough")) (.cmp .ge (.sub (.loc "counts") (.loc "place")) (.loc "enough")))) [.ret (.tup [.loc "counts",.loc "came"])] [],.assign (.tup ["raised","lowered","start"]) (.call "way_to" [.loc "came",.loc "goal"]),.assign (.name "amount") (.bi .min [.comp (.sub (.loc "counts") (.loc "other")) (.name "other") .val [.loc "lowered"]]),.expr (.call "move" [.loc "counts",.bin .add (.loc "raised") (.list [.loc "place"]),.loc "lowered",.loc "amount"])]]⟩
noncomputable def ef:Fn:=⟨"Bounds.least",["self","place","enough"],["counts","goal","came","raised","lowered","start","amount"],
 [.assign (.name "counts") (.bi (.dict ()) [.attr "self" "counts"]),
  .assign (.name "goal") (.tup [.glob "COLUMN",.sub (.loc "place") (.int 1)]),
  .while_ (.bool Jc) [.assign (.name "came") (.call "reached" [.attr "self" "near",.loc "counts",.list [.tup [.glob "ROW",.sub (.loc "place") (.int 0)]],.loc "place"]),.if_ (.or_ (.cmp .nin (.loc "goal") (.loc "came")) (.or_ (.cmp .eq (.sub (.loc "counts") (.loc "place")) (.int 0)) (.and_ (.notNone (.loc "enough")) (.cmp .le (.sub (.loc "counts") (.loc "place")) (.loc "enough"))))) [.ret (.tup [.loc "counts",.loc "came"])] [],.assign (.tup ["raised","lowered","start"]) (.call "way_to" [.loc "came",.loc "goal"]),.assign (.name "amount") (.bi .min [.comp (.sub (.loc "counts") (.loc "other")) (.name "other") .val [.bin .add (.loc "lowered") (.list [.loc "place"])]]),.expr (.call "move" [.loc "counts",.loc "raised",.bin .add (.loc "lowered") (.list [.loc "place"]),.loc "amount"])]]⟩
noncomputable def cz:Fn:=⟨"Bounds.is_given_away",["self","place","width"],["here","high"],
 [.assign (.name "here") (.sub (.attr "self" "counts") (.loc "place")),
  .assign (.name "high") (.sub (.sub (.mcall "Bounds.greatest" (.loc "self") [.loc "place",.bin .add (.loc "here") (.loc "width")])<|.int 0)<|.loc "place"),
  .if_ (.cmp .ge (.bin .sub (.loc "high")<|.loc "here")<|.loc "width") [.ret (.bool Jd)] [],
  .ret (.cmp .lt (.bin .sub (.loc "high") (.sub (.sub (.mcall "Bounds.least" (.loc "self") [.loc "place",.bin .sub (.loc "high") (.loc "width")]) (.int 0)) (.loc "place"))) (.loc "width"))]⟩
noncomputable def f_Bounds_walls:Fn:=⟨"Bounds.walls",["self","place","many_rows","many_columns"],["counts","came","low","rows","columns"],
 [.assign (.tup ["counts","came"]) (.mcall "Bounds.least" (.loc "self") [.loc "place",.none]),
  .assign (.name "low") (.tup [.int 0,.list [],.list []]),
  .if_ (.cmp (.gt ()) (.sub (.loc "counts")<|.loc "place")<|.int 0) [.assign (.name "low") (.tup [.sub (.loc "counts") (.loc "place"),.call "numbers_of" [.loc "came",.glob "ROW"],.call "numbers_of" [.loc "came",.glob "COLUMN"]])] [],
  .assign (.tup ["counts","came"]) (.mcall "Bounds.greatest" (.loc "self") [.loc "place",.none]),
  .assign (.name "rows") (.compIf (.loc "row") (.name "row") .range [.loc "many_rows"] (.cmp .nin (.tup [.glob "ROW",.loc "row"])<|.loc "came")),
  .assign (.name "columns") (.compIf (.loc "column") (.name "column") .range [.loc "many_columns"] (.cmp .nin (.tup [.glob "COLUMN",.loc "column"])<|.loc "came")),
  .ret (.tup [.loc "low",.tup [.sub (.loc "counts") (.loc "place"),.loc "rows",.loc "columns"]])]⟩
def cls8:Cls:=⟨"counts","counts","near",.loc "counts",.call "near_of" [.bi .list [.loc "counts"]],[c7,ef,cz,f_Bounds_walls]⟩
def kinds7:Kinds:=⟨["VeilError","BadTable","BadView","BadPlace","BadNumber","NoTable","NotHidden"],["BadView","BadPlace","BadNumber"],["NoTable"],λc=>cond (c=="NoTable") ["rows","columns"] (cond (c=="Bounds") ["counts","near"] []),λc d=>c==d||d=="VeilError"||d=="ValueError",Ja cls8⟩
noncomputable def kI(tb:String->Option Builtin)(p:Jn)(w:Jm)(n₀:Nat)(ann:Option Jf):Nat->SharedT->Thread->Option SharedT
 |0,_,_=>Jb
 |n+1,s,t=>cond (through t) (Ja s) (cond (stepOk n₀ ann t) ((stepT (denote tb) p w s t).bind λq=>kI tb p w n₀ ann n q.1 q.2) Jb)
noncomputable def nu:List Jp->BT->Nat->Option BT
 |[],t,_=>Ja t
 |o::os,t,n=>cond ((t.ins n o).get n).isSome (nu os (t.ins n o)<|n+1) Jb
def toT(s:Je):Option SharedT:=(nu s.heap.objs.toList .nil 0).map λt=>⟨t,s.heap.objs.size,s.heap.life,s.gens,s.drawn,s.toks,s.os⟩
def js(tb:String->Option Builtin)(p:Jn)(w:Jm)(N:Nat)(s₀:Je):Option Je:=
 match s₀.heap.isNs JB&&s₀.gens.size==0 with
 |true=>((toT s₀).bind λsT=>kI tb p w s₀.heap.objs.size (s₀.heap.nsMap JB "__annotations__") N sT (topStub p)).bind λs₁=>match staticsOk (importedModules p.main.body) s₀.heap s₁.abs.heap&&namesBound p s₁.abs.heap&&gensDone s₁.abs&&laidKept s₀.heap s₁.abs.heap with
   |true=>Ja s₁.abs
   |false=>Jb
 |false=>Jb
noncomputable def xR:Jo->Bool
 | .Assign [.Name n _] _ _=> !(n==Qb "__name__")
 |_=>Jc
def view7:Jn:={PySem.Challenge.rw_uf010011_10.prog with main:={PySem.Challenge.rw_uf010011_10.prog.main with body:=PySem.Challenge.rw_uf010011_10.prog.main.body.filter xR}}
def obsE(k:Kinds)(s:Je):Bool:=kC (kFrag s.heap k) k&&zt s.heap (kFrag s.heap k) k&&clsK s.heap (kFrag s.heap k) k
theorem hl8(w:Jm):Wt (λs=>(openSeen view7 [] (importedModules PySem.Challenge.rw_uf010011_10.row.prog.main.body) (λs=>recOk (RowW.records (OpenRow.toRowW (OpenLaw.row PySem.Challenge.rw_uf010011_10))) s) Jc s,obsE kinds7 s)) ((fencedOpening Y9 PySem.Challenge.rw_uf010011_10.row.prog w 16000).bind (js Y9 PySem.Challenge.rw_uf010011_10.row.prog w 16000))=Ja (openGood view7 [],Jc):=by kernel_rfl
end
noncomputable abbrev Mo(C:Cx):Model:=Jt C.prog C.w
def Kp(C:Cx)(v:Jf):Prop:=∃k,(k=Keeper.frame\/k=Keeper.machine\/k=Keeper.boundFrame)/\W.Looks (Mo C) C.B (keeperOf v) k
noncomputable def bltNames:List String:=["len","all","any","sum","abs","int","list","tuple","dict","isinstance","range","bool","min","sorted","zip"]
structure GOK(C:Cx)(G:Gx)(mg mb:Jq->Option Jf):Prop where
 g:C.B.Ns JB mg
 b:C.B.Ns builtinsNs mb
 nolimit:C.B.NoLimit
 blt:∀x∈bltNames,
  mg (Qb x)=Jb/\mb (Qb x)=Y3 (Qb x)
 glob:∀x p,G.glob x=Ja p->∃v,mg (Qb x)=Ja v/\∀σ h,VR C σ h p v
 full:G.full=Jc->C.ok
 calm:G.calm=Jc->C.calm
 fv:∀f v,bZ f=Jc->C.fv f=Ja v->mg (Qb f)=Ja v
 fn:∀f,G.fn f=Jc->∃v,C.fv f=Ja v/\Kp C v
def aO(C:Cx)(n:Nat):Cl:=λf args σ Q X=>
 ∃v,C.fv f=Ja v/\Kp C v/\∀ (A:Jj) (l:List Js) (s:Je) (w:List Jf),AOK C n A l σ s.heap->Sim C σ s.heap->VRs C σ s.heap args w->
  Jh (Mo C) A (call v w) (VP C none1 σ s Q) (XP C none1 σ s X) s
section
variable{C:Cx}{A:Jj}{Er:Jf->Je->Prop}{σ:PH}{s:Je}
theorem VP.to{S:Jg->Prop}{R:Jf->Je->Prop}{E:Jf->Je->Prop}(h:Jh (Mo C) A t (VP C S σ s Q) E s)
  (k:∀v W p σ1,VR C σ1 W.heap p v->Sim C σ1 W.heap->Step S σ s.heap σ1 W.heap->Rest s W->Q p σ1->R v W)(m:∀e W,E e W->Er e W):Jh (Mo C) A t R Er s:=
 YC h (λv W z=>by obtain⟨p,σ1,a,b,c,d,e⟩:=z;exact k v W p σ1 a b c d e) m
theorem VP.here{S:Jg->Prop}{s':Je}(m:Sim C σ s.heap)(h:s'.heap=s.heap)(r:Rest s s')(hv:VR C σ s.heap p v)(q:Q p σ):VP C S σ s Q v s':=
 ⟨p,σ,by rw[h];exact hv,by rw[h];exact m,by rw[h];exact .refl _ _ _,r,q⟩
end
section
variable{C:Cx}{G:Gx}{mg mb:Jq->Option Jf}{A:Jj}{Er:Jf->Je->Prop}{env:Js}{ρ:Rho}{σ:PH}{s:Je}
theorem mj{sc:Jk}(h:isLoc sc y=Jc):sc.names.lookup y=Ja .local\/sc.names.lookup y=Ja .cell\/sc.names.lookup y=Ja .free:=by
 simp only[isLoc,WW,beq_iff_eq] at h
 rcases h with(h|h)|h
 ·exact .inl h
 ·exact .inr<|.inl h
 ·exact .inr<|.inr h
theorem k7{Q:Jf->Je->Prop}(e:EnvR C env ρ σ s.heap)(l:isLoc env.scope (Qb x)=Jc)(d:bB (Qb x)=Jc)(hx:ρ.get x=Ja p)
  (h:∀v,VR C σ s.heap p v->Q v s):Jh (Mo C) A (Jx (.Name (Qb x) pos) env) Q Er s:=by
 simp only[bB,QL,QQ] at d;refine YK ?_ d.1
 rcases mj l with k|k|k
 ·obtain⟨m,n,hv⟩:=e.ns;obtain⟨v,T,w⟩:=hv x p hx k;exact YW e.fn k n T<|h v w
 ·obtain⟨c,v,T,w,X⟩:=e.cell x p hx<|.inl k;exact wpAny_loadName_cell e.fn k T w<|h v X
 ·obtain⟨c,v,T,w,X⟩:=e.cell x p hx<|.inr k;exact wpAny_loadName_free e.fn k T w (h v X) d.2
theorem gr{env:Js}(h:env.scope.kind= .function)(hx:env.kindOf x=Ja .globalImplicit):loadName env x=loadGlobal env x:=by
 unfold loadName;dsimp only[Env.blockKind];rw[h,hx];rfl
theorem iG{sc:Jk}(h:glb sc x e=Jc):∃pos,e= .Name (Qb x) pos/\sc.names.lookup (Qb x)=Ja .globalImplicit/\bB (Qb x)=Jc:=by
 induction e using Expr.casesOn with
 |Name y p=>
  obtain⟨h1,h3⟩:=Qh.mp (show(Vl.Internal.nm y x&&nH sc y&&bB y)=Jc from h);obtain⟨h1,h2⟩:=Qh.mp h1;have h1:y=Qb x:=Ui h1;subst h1;exact⟨_,rfl,Ui h2,h3⟩
 |_=>exact bnx h
theorem iO{Q:Jf->Je->Prop}(g:GOK C G mg mb)(e:EnvR C env ρ σ s.heap)(m:Sim C σ s.heap)
  (l:env.scope.names.lookup (Qb x)=Ja .globalImplicit)(d:bB (Qb x)=Jc)(hx:mg (Qb x)=Ja v)(h:Q v s):
  Jh (Mo C) A (Jx (.Name (Qb x) pos) env) Q Er s:=by
 simp only[bB,QL,QQ] at d;refine YK ?_ d.1;rw[gr e.fn l];refine Calls.loadGlobal_global ?_ hx h;rw[e.glob];exact g.g.keeps m.base
theorem gI{Q:Jf->Je->Prop}(g:GOK C G mg mb)(e:EnvR C env ρ σ s.heap)(m:Sim C σ s.heap)
  (l:env.scope.names.lookup (Qb x)=Ja .globalImplicit)(d:bB (Qb x)=Jc)
  (L:x∈bltNames)
  (hx:Y3 (Qb x)=Ja v)(h:Q v s):
  Jh (Mo C) A (Jx (.Name (Qb x) pos) env) Q Er s:=by
 simp only[bB,QL,QQ] at d;refine YK ?_ d.1;rw[gr e.fn l];obtain⟨T,w⟩:=g.blt x L;refine Calls.loadGlobal_builtin (v:=v) ?_ T ?_ (w.trans hx) h
 ·rw[e.glob];exact g.g.keeps m.base
 ·rw[e.blt];exact g.b.keeps m.base
end
section
variable{C:Cx}{σ:PH}{h h':Ji}
theorem Sim.lt(m:Sim C σ h)(e:σ a=Ja o):a<h.objs.size:=by obtain⟨o0,d,o0⟩:=m.objs a o e;exact QH d
theorem Sim.fresh(m:Sim C σ h)(e:h.objs.size<=a):σ a=Jb:=by
 induction q:σ a with
 |none=>rfl
 |some o=>exact absurd (m.lt q)<|Kd.mpr e
theorem Sim.freshB(m:Sim C σ h)(e:h.objs.size<=a):C.B.get? a=Jb:=by
 induction q:C.B.get? a with
 |none=>rfl
 |some o=>exact absurd (QH<|m.base a o q)<|Kd.mpr e
theorem Step.more{S:Jg->Prop}(k:∀b o,h.get? b=Ja o->h'.get? b=Ja o):Step S σ h σ h':=
 ⟨λb o e s=>⟨s,o,k b o e,λo0=> .refl o⟩,λb o e=>⟨o,e⟩,λo0 o0 e o0=>e,λb e=>by
  induction q:h.get? b with
  |none=>rfl
  |some o=>exact sn ((k b o q).symm.trans e)⟩
theorem Step.push(S:Jg->Prop)(σ:PH)(h:Ji)(W:Jp):Step S σ h σ (h.push W):= .more (λb o e=>Qm W e)
theorem Step.old{S:Jg->Prop}{h₀:Ji}(st:Step S B h₀ σ h)(m:Sim C σ h)(e:h.get? a=Jb):h₀.get? a=Jb:=by
 induction q:h₀.get? a with
 |none=>rfl
 |some o=>
  induction w:B a with
  |none=>obtain⟨o0,i,g,o0⟩:=st.keep a o q w;exact ns<|e.symm.trans g
  |some p=>obtain⟨Y,g⟩:=st.grow a p w;obtain⟨b,d,_⟩:=m.objs a Y g;exact ns<|e.symm.trans d
theorem Sim.step{S:Jg->Prop}(m:Sim C σ h)(st:Step S σ h σ h')(k:∀a o,σ a=Ja o->h'.get? a=h.get? a)(P:∀b o,C.B.get? b=Ja o->h'.get? b=Ja o):Sim C σ h' where
 base:=P
 new:=m.new
 objs:=λa o e=>by obtain⟨W,N,p⟩:=m.objs a o e;exact⟨W,(k a o e).trans N,p.step st⟩
 rich:=m.rich
theorem Sim.more(m:Sim C σ h)(k:∀b o,h.get? b=Ja o->h'.get? b=Ja o):Sim C σ h':=
 m.step (S:=none1) (.more k) (λa o e=>by obtain⟨W,N,o0⟩:=m.objs a o e;exact(k _ _ N).trans N.symm) λb o e=>k b o<|m.base b o e
theorem Sim.push(m:Sim C σ h)(W:Jp):Sim C σ (h.push W):=m.more (λb o e=>Qm W e)
theorem Sim.add{S:Jg->Prop}(m:Sim C σ h){o:PO}(st:Step S σ h (σ.set a o) h')(k:∀x o',σ x=Ja o'->h'.get? x=h.get? x)(M:∀b o,C.B.get? b=Ja o->h'.get? b=Ja o)
  (e:h'.get? a=Ja W)(b:C.B.get? a=Jb)(r:OR C (σ.set a o) h' o W)(n:o.needs C.ok a):Sim C (σ.set a o) h' where
 rich:=λx o' g=>by
  by_cases q:x=a
  ·subst q;rw[PH.set_same] at g;obtain rfl:=sj g;exact n
  ·rw[PH.set_ne _ _ q] at g;exact m.rich x o' g
 base:=M
 new:=λx o' g=>by
  by_cases q:x=a
  ·subst q;exact b
  ·rw[PH.set_ne _ _ q] at g;exact m.new x o' g
 objs:=λx o' g=>by
  by_cases q:x=a
  ·subst q;rw[PH.set_same] at g;obtain rfl:=sj g;exact⟨W,e,r⟩
  ·rw[PH.set_ne _ _ q] at g;obtain⟨P,N,p⟩:=m.objs x o' g;exact⟨P,(k x o' g).trans N,p.step st⟩
theorem Step.add{S:Jg->Prop}{h₀:Ji}(st:Step S B h₀ σ h)(o:PO)(f:h₀.get? a=Jb)(f':B a=Jb):Step S B h₀ (σ.set a o) h where
 keep:=λb W e s=>by
  obtain⟨x,i,y,z⟩:=st.keep b W e s;refine⟨?_,i,y,z⟩;rw[PH.set_ne]
  ·exact x
  ·rintro rfl;exact ns<|f.symm.trans e
 grow:=λb W e=>by
  obtain⟨i,g⟩:=st.grow b W e;by_cases q:b=a
  ·subst q;exact⟨o,PH.set_same _ _ _⟩
  ·exact⟨i,by rw[PH.set_ne _ _ q];exact g⟩
 fix:=λb o e q=>by
  rw[PH.set_ne]
  ·exact st.fix b o e q
  ·rintro rfl;exact ns<|f'.symm.trans e
 live:=st.live
theorem Sim.upd{S:Jg->Prop}(m:Sim C σ h){o o':PO}(T:σ a=Ja o)(U:o.fixed=Jd)(f:Ky a h h')(e:h'.get? a=Ja l)(r:OR C σ h o' l)(n:o'.needs C.ok a:=by trivial):
  Sim C (σ.set a o') h'/\Step S σ h (σ.set a o') h':=by
 have t:Step S σ h (σ.set a o') h':=⟨λb W q s=>by
   have R:b≠a:=by rintro rfl;exact sn<|T.symm.trans s
   exact⟨by rw[PH.set_ne _ _ R];exact s,W,(f.2 b R).trans q,λo0=> .refl W⟩,
  λb W q=>by
   by_cases R:b=a
   ·subst R;exact⟨o',PH.set_same _ _ _⟩
   ·exact⟨W,by rw[PH.set_ne _ _ R];exact q⟩,
  λb W q w=>by
   have R:b≠a:=by rintro rfl;obtain rfl:=sj<|T.symm.trans q;exact ft<|U.symm.trans w
   rw[PH.set_ne _ _ R];exact q,
  λb q=>by
   by_cases R:b=a
   ·subst R;exact sn<|e.symm.trans q
   ·rw[<-f.2 b R];exact q⟩
 refine⟨⟨λb W q=> ?_,λx W q=> ?_,λx W q=> ?_,λx W q=> ?_⟩,t⟩
 ·have R:b≠a:=by rintro rfl;have:=m.new _ _ T;exact sn (q.symm.trans this)
  exact(f.2 b R).trans (m.base b W q)
 ·by_cases hx:x=a
  ·subst hx;exact m.new _ _ T
  ·rw[PH.set_ne _ _ hx] at q;exact m.new x W q
 ·by_cases hx:x=a
  ·subst hx;rw[PH.set_same] at q;obtain rfl:=sj q;exact⟨l,e,r.step t⟩
  ·rw[PH.set_ne _ _ hx] at q;obtain⟨P,N,p⟩:=m.objs x W q;exact⟨P,(f.2 x hx).trans N,p.step t⟩
 ·by_cases hx:x=a
  ·subst hx;rw[PH.set_same] at q;obtain rfl:=sj q;exact n
  ·rw[PH.set_ne _ _ hx] at q;exact m.rich x W q
end
section
variable{C:Cx}{A:Jj}{Er:Jf->Je->Prop}{σ:PH}{s:Je}
theorem VP.alloc{S:Jg->Prop}{o:PO}{W:Jp}{s':Je}(m:Sim C σ s.heap)(U:s'.heap=s.heap.push W)(r:Rest s s')(f:W.isFreed=Jd)(n:OR C σ s.heap o W)(q:wnew o σ Q)(d:o.needs C.ok s.heap.objs.size:=by trivial):
  VP C S σ s Q (.ref s.heap.objs.size) s':=by
 have t:Step S σ s.heap (σ.set s.heap.objs.size o) (s.heap.push W):=(Step.push S σ s.heap W).add o (by
  induction e:s.heap.get? s.heap.objs.size with
  |none=>rfl
  |some x=>exact absurd (QH e) (KG _)) (m.fresh (QA _))
 refine⟨.ref s.heap.objs.size,σ.set s.heap.objs.size o,rfl,?_,?_,r,q _<|m.fresh (QA _)⟩
 ·rw[U];exact m.add t (λx i e=>by obtain⟨P,N,o0⟩:=m.objs x i e;exact(Qm _ N).trans N.symm) (λb o e=>Qm _<|m.base b o e) (QG _ f) (m.freshB<|QA _) (n.step t) d
 ·rw[U];exact t
theorem VP.allocTup{S:Jg->Prop}{vs:Array Jf}{s':Je}(m:Sim C σ s.heap)(U:s'.heap=s.heap.push (tupO vs n))(r:Rest s s')(T:VRs C σ s.heap l vs.toList)(q:Q (.tup l) σ):
  VP C S σ s Q (.ref s.heap.objs.size) s':=by
 have N:=m.push<|tupO vs n;have t:=Step.push S σ s.heap<|tupO vs n;refine⟨.tup l,σ,?_,by rw[U];exact N,by rw[U];exact t,r,q⟩;rw[U];exact⟨_,n,vs,rfl,m.fresh<|QA _,QG _ rfl,T.step t⟩
theorem VRs.append:∀ {l m:List PV} {vs ws:List Jf},VRs C σ h l vs->VRs C σ h m ws->VRs C σ h (l++m) (vs++ws)
 |[],m,vs,ws,a,b=>by change _=_ at a;subst a;exact b
 |p::l,m,vs,ws,a,b=>by
  obtain⟨v,r,rfl,N,Y⟩:=a;exact⟨v,r++ws,rfl,N,VRs.append Y b⟩
theorem VRs.length:∀ {l:List PV} {vs:List Jf},VRs C σ h l vs->vs.length=l.length
 |[]=>λa=>by change _=_ at a;subst a;rfl
 |p::l=>λa=>by
  obtain⟨v,r,rfl,N,Y⟩:=a;simp[VRs.length Y]
theorem VRs.get:∀ {l:List PV} {vs:List Jf},VRs C σ h l vs->∀ (i:Nat) (p:PV),l[i]? =Ja p->∃v,vs[i]? =Ja v/\VR C σ h p v
 |[]=>λa i p e=>by simp at e
 |q::l=>λa i p e=>by
  obtain⟨v,r,rfl,N,Y⟩:=a
  induction i using Nat.casesOn with
  |zero=>simp at e;subst e;exact⟨v,rfl,N⟩
  |succ j=>simp at e;simpa using VRs.get Y j p e
theorem VRs.of_get:∀ {l:List PV} {vs:List Jf},vs.length=l.length->(∀ (i:Nat) (p:PV) (v:Jf),l[i]? =Ja p->vs[i]? =Ja v->VR C σ h p v)->VRs C σ h l vs
 |[],vs=>λa e=>Wx.mp a
 |q::l,[]=>λa e=>by simp at a
 |q::l,v::r=>λa e=>by
  refine⟨v,r,rfl,e 0 q v rfl rfl,VRs.of_get (by simpa using a) λi p w N Y=>e (i+1) p w (by simpa using N)<|by simpa using Y⟩
theorem VRs.set{l:List PV}{vs:List Jf}(x:VRs C σ h l vs)(i:Nat)(r:VR C σ h p v):VRs C σ h (l.set i p) (vs.set i v):=by
 have T:=x.length;refine VRs.of_get (by simp[T]) λj q w N Y=> ?_;rw[Wo] at N Y;by_cases D:i=j
 ·subst D;rw[Uh rfl] at N Y
  split at N<;>split at Y<;>simp_all
 ·rw[Ug D] at N Y;obtain⟨m,L,e⟩:=x.get j q N;obtain rfl:=sj<|Y.symm.trans L;exact e
theorem VRs.take{l:List PV}{vs:List Jf}(x:VRs C σ h l vs)(i:Nat):VRs C σ h (l.take i) (vs.take i):=by
 have T:=x.length;refine VRs.of_get (by simp[T]) λj q w N p=> ?_;rw[List.getElem?_take] at N p
 split at N
 ·rw[Uh (by assumption)] at p;obtain⟨m,L,e⟩:=x.get j q N;obtain rfl:=sj<|p.symm.trans L;exact e
 ·exact ns N
theorem VRs.drop{l:List PV}{vs:List Jf}(x:VRs C σ h l vs)(i:Nat):VRs C σ h (l.drop i) (vs.drop i):=by
 have T:=x.length;refine VRs.of_get (by simp[T]) λj q w N p=> ?_;rw[List.getElem?_drop] at N p;obtain⟨m,L,e⟩:=x.get _ q N;obtain rfl:=sj<|p.symm.trans L;exact e
end
section
variable{C:Cx}{A:Jj}{Er:Jf->Je->Prop}{σ:PH}{s:Je}{Q:Post}{n:Nat}{fr:List Js}
theorem ey(t:Tok):VR C σ h (.int i) (.int i t):=⟨t,rfl⟩
theorem fW:VR C σ h (.bool b) (.bool b):=rfl
theorem mW:VR C σ h .none .none:=rfl
inductive LstAt(C:Cx)(σ:PH)(h:Ji)(a:Jg)(l:List PV):Prop
 |mk (vs:Array Jf) (n:Nat) (e:h.get? a=Ja (lstO vs n)) (r:VRs C σ h l vs.toList):LstAt C σ h a l
theorem Sim.list(m:Sim C σ h)(e:σ a=Ja (.list l)):LstAt C σ h a l:=by
 obtain⟨o,N,v,n,rfl,p⟩:=m.objs a _ e;exact⟨v,n,N,p⟩
theorem iW{z:Int}(hz:z.natAbs<2^64):Builtin.Int.intBits z<=64:=by
 unfold Builtin.Int.intBits
 split
 ·exact QY _
 ·rename_i h
  have:z.natAbs≠0:=by simpa using h
  exact(Nat.log2_lt this).mpr hz
theorem oS{vs:Array Jf}(h:vs.toList.length=n):vs.size=n:=h
theorem xT(m:Sim C σ s.heap)(T:σ x=Ja (.list l))(e:σ y=Ja (.list k))(w:wlist (l++k) σ Q):Jh (Mo C) A (binaryOp .Add (.ref x) (.ref y)) (VP C none1 σ s Q) Er s:=by
 obtain⟨W,X,h,f⟩:=m.list T;obtain⟨v,I,Y,r⟩:=m.list e;have p:=oS f.length;have K:=oS r.length;have z:l.length+k.length<=1000000:=by rw[<-QJ];exact w.1
 exact P.add_list h Y (VP.alloc (o:= .list (l++k)) m rfl ⟨rfl,rfl⟩ rfl ⟨_,_,rfl,by rw[Array.toList_append];exact f.append r⟩ w.2)<|by rw[p,K];exact QD z<|by decide
theorem zI(d:mOp p o=Jc)(m:Sim C σ s.heap)(Z:VR C σ s.heap a v)(r:VR C σ s.heap b q)(w:wbin p a b σ Q):
  Jh (Mo C) A (binaryOp o v q) (VP C none1 σ s Q) Er s:=by
 cases (Uf d);have two:∀ {K:Int->Int->Prop} {o:Operator},onInt (λx=>onInt (λy=>K x y) b) a->(∀x y t u,K x y->Jh (Mo C) A (binaryOp o (.int x t)<|.int y u) (VP C none1 σ s Q) Er s)->Jh (Mo C) A (binaryOp o v q) (VP C none1 σ s Q) Er s:=λw k=>by
  obtain⟨x,e,w⟩:=du w;obtain⟨y,g,w⟩:=du w;subst e g;obtain⟨t,rfl⟩:=Z;obtain⟨u,rfl⟩:=r;exact k x y t u w
 induction p with
 |add=>
  induction a using PV.casesOn with
  |int x=>
   obtain⟨y,rfl,w⟩:=du w;obtain⟨t,rfl⟩:=Z;obtain⟨u,rfl⟩:=r;exact P.add_int<|VP.here m rfl ⟨rfl,rfl⟩ (ey _) w
  |ref x=>
   obtain⟨o0,l,e,T,w⟩:=fw (show onL σ (λl=>onL σ (λm=>wlist (l++m) σ Q) b) (.ref x) from w);cases e;obtain⟨y,k,rfl,F,j⟩:=fw w;rw[show v= .ref x from Z,show q= .ref y from r];exact xT m T F j
  |_=>exact w.elim
 |mul=>exact two w λx y t u w=>P.mul_int (VP.here m rfl ⟨rfl,rfl⟩ (ey _) w.2) (w.1.elim (λh=>IntMulOk.of_left (iW h)) λh=>IntMulOk.of_right (iW h))
 |sub=>exact two w λx y t u w=>P.sub_int<|VP.here m rfl ⟨rfl,rfl⟩ (ey _) w
 |fdiv=>exact two w λx y t u w=>PyProof.Rows.floordiv_int w.1 (VP.here m rfl ⟨rfl,rfl⟩ (ey _) w.2.2)<|.inl (PyProof.noPylong_small w.2.1)
 |mod=>exact two w λx y t u w=>PyProof.Rows.mod_int' w.1<|VP.here m rfl ⟨rfl,rfl⟩ (ey _) w.2
 |pow=>exact two w λx y t u w=>PyProof.Rows.pow_int_small w.1 (by have:=w.2.1;exact QN w.2.1 (by decide)) w.2.2.1 (VP.here m rfl ⟨rfl,rfl⟩ (ey _) w.2.2.2)
end
section
open PyProof.Rows
section
variable{C:Cx}{A:Jj}{Er:Jf->Je->Prop}{σ:PH}{s:Je}{h:Ji}
abbrev XS:=List<|List KA×Jg×Jf
structure DAt(C:Cx)(σ:PH)(h:Ji)(a:Jg)(ks:List (List KA))(l:List PV)(xs:XS):Prop where
 of:h.DictOfH (tk C.prog C.w) a xs
 ks:xs.map (·.1)=ks
 ka:∀y∈xs,KeyAt C σ h y.1 y.2.1
 v:VRs C σ h l (xs.map (·.2.2))
 sys:(a==JE)=Jd
theorem KeyAt.is(x:KeyAt C σ h k a):(tk C.prog C.w).is h k a:=by obtain⟨o0,v,m,g,i⟩:=x;exact⟨_,v,m,g,rfl,rfl,i⟩
theorem Sim.dict(m:Sim C σ h)(e:σ a=Ja (.dict ks l)):∃xs,DAt C σ h a ks l xs:=by
 obtain⟨o,g,U,p,xs,x,d,T,k,nd,E,v⟩:=m.objs a _ e;exact⟨xs,⟨o,U,p,g,x,d,T,λy W=>(E y W).is,k▸nd⟩,k,E,v,beq_eq_false_iff_ne.mpr<|m.rich a _ e⟩
theorem pE:∀ {l:List PV} {vs:List Jf} {k:List KA},kasOf l=Ja k->VRs C σ h l vs->ItemsAre (mk C.prog C.w) k vs
 |[],vs,k,e,r=>by change _=_ at r;subst r;obtain rfl:=sj e;exact .nil
 |p::l,vs,k,e,r=>by
  obtain⟨v,U,rfl,f,M⟩:=r;obtain⟨a,T,e⟩:=Qn.mp (show((kaOf p).bind λk=>(kasOf l).map (k:: ·))=Ja k from e);obtain⟨r,w,e⟩:=Qu.mp e;subst e;refine .cons ?_<|pE w M
  induction p using PV.casesOn with
  |int i=>obtain rfl:=sj T;obtain⟨t,rfl⟩:=f;exact vj i t
  |str i=>obtain rfl:=sj T;obtain⟨t,rfl⟩:=f;exact sU i t
  |_=>first|exact onx T|cases T
theorem lK(e:keyOf p=Ja k)(r:VR C σ h p v):∃b,v= .ref b/\KeyAt C σ h k b:=by
 induction p using PV.casesOn with
 |tup l=>
  obtain⟨a,n,J,T,w,X,u⟩:=r;exact⟨a,T,w,J,n,X,pE e u⟩
 |_=>first|exact onx e|cases e
theorem kA:∀ {xs:XS},Y1 xs k=(kidx (xs.map (·.1)) k).bind λj=>xs[j]?.map (·.2)
 |[]=>rfl
 |x::xs=>by
  have i:=kA (k:=k) (xs:=xs);show((x::xs).find? λy=>decide<|y.1=k).map (·.2)=(if x.1=k then Ja 0 else(kidx (xs.map (·.1)) k).map (· +1)).bind λj=>(x::xs)[j]?.map (·.2);by_cases q:x.1=k
  ·rw[Uh q,List.find?_cons,Ud q];rfl
  ·rw[Ug q,List.find?_cons,Ue q];show Y1 xs k=_;rw[i];cases kidx (xs.map (·.1)) k<;>rfl
theorem mL:∀ {ks:List (List KA)} {j:Nat},kidx ks k=Ja j->j<ks.length/\ks[j]? =Ja k
 |[],j,e=>by exact ns e
 |x::ks,j,e=>by
  replace e:(if x=k then Ja 0 else(kidx ks k).map (· +1))=Ja j:=e;by_cases q:x=k
  ·obtain rfl:=sj<|(Uh q).symm.trans e;exact⟨Ye _,by rw[q];rfl⟩
  ·rw[Ug q] at e;obtain⟨i,T,rfl⟩:=Qu.mp e;obtain⟨N,p⟩:=mL T;exact⟨Yp N,p⟩
theorem DAt.look{a:Jg}{ks:List (List KA)}{l:List PV}{xs:XS}(d:DAt C σ h a ks l xs){k:List KA}:
  (klook ks l k=Jb/\Y1 xs k=Jb)\/X2 λp q=>A3 (klook ks l k=Ja p) (Y1 xs k=Ja q) (VR C σ h p q.2):=by
 rw[kA,d.ks];unfold klook
 induction e:kidx ks k with
 |none=>exact .inl ⟨rfl,rfl⟩
 |some j=>
  have H:=(mL e).1;have T:=d.v.length;rw[Qd] at T;have M:xs.length=ks.length:=by rw[<-d.ks,Qd]
  have N:j<xs.length:=by exact zq H M.symm
  have Y:j<l.length:=by exact zq H<|M.symm.trans T
  obtain⟨v,L,w⟩:=d.v.get j l[j] (Qf Y);refine .inr ⟨l[j],xs[j].2,Qf Y,by show xs[j]?.map (·.2)=_;rw[Qf N];rfl,?_⟩;rw[Qw,Qf N] at L;obtain rfl:=sj L;exact w
theorem DAt.some_{a:Jg}{ks:List (List KA)}{l:List PV}{xs:XS}(d:DAt C σ h a ks l xs){k:List KA}:(kidx ks k).isSome=(Y1 xs k).isSome:=by
 rw[kA,d.ks]
 induction e:kidx ks k with
 |none=>rfl
 |some j=>
  have H:=(mL e).1;have q:xs.length=ks.length:=by rw[<-d.ks,Qd]
  show Jc=(xs[j]?.map (·.2)).isSome;rw[Qf (by exact zq H q.symm)];rfl
theorem iM(u:A.units+100<cLine):(tk C.prog C.w).room A.in1:=by show A.units+1<cLine;exact zl (KJ (by decide) _) u
theorem qM(k:List KA)(v:Jf):∀ {xs:XS} {j:Nat},kidx (xs.map (·.1)) k=Ja j->(xs.map (·.1)).Nodup->(xs.map (putAt k v)).map (·.2.2)=(xs.map (·.2.2)).set j v
 |[],j,e,_=>by exact ns e
 |x::xs,j,e,nd=>by
  replace e:(if x.1=k then Ja 0 else(kidx (xs.map (·.1)) k).map (· +1))=Ja j:=e;rw[Qo,Qz] at nd;by_cases q:x.1=k
  ·obtain rfl:=sj<|(Uh q).symm.trans e;rw[Qo,map_putAt_of_not_mem xs k v (q▸nd.1)];show(putAt k v x).2.2::_=v::_;rw[putAt,Uh q]
  ·rw[Ug q] at e;obtain⟨i,T,rfl⟩:=Qu.mp e;rw[Qo];show(putAt k v x).2.2::(xs.map<|putAt k v).map (·.2.2)=x.2.2::(xs.map (·.2.2)).set i v;rw[qM k v T nd.2,putAt,Ug q]
theorem DAt.dict_data{a:Jg}{ks:List (List KA)}{l:List PV}{xs:XS}(d:DAt C σ h a ks l xs):X3 λo es ep=>h.get? a=Ja o/\o.data= .dict es ep:=by obtain⟨o,es,ep,g,o0,q,o0⟩:=d.of;exact⟨o,es,ep,g,q⟩
theorem DAt.set{a b:Jg}{ks:List (List KA)}{l:List PV}{xs:XS}{k:List KA}{p:PV}{v:Jf}{S:Ji}(m:Sim C σ h)(e:σ a=Ja (.dict ks l))(d:DAt C σ h a ks l xs)(Y:KeyAt C σ h k b)(hv:VR C σ h p v)
  (G:S.DictOfH (tk C.prog C.w) a (storedH xs k b v))(H:Ky a h S):Sim C (σ.set a<|kset ks l k p) S/\Step none1 σ h (σ.set a<|kset ks l k p) S:=by
 obtain⟨o,R,I,V,t⟩:=d.dict_data;obtain⟨i,g,c,J,M,E,x,o0,n⟩:=G;have F:(xs.map (·.1)).Nodup:=by obtain⟨o0,o0,o0,o0,o0,o0,o0,o0,q⟩:=d.of;exact q
 have r:OR C σ h (kset ks l k p) i:=by
  unfold kset
  induction q:kidx ks k with
  |none=>
   have U:Y1 xs k=Jb:=by rw[kA,d.ks,q];rfl
   rw[storedH_new U] at x n;refine⟨g,c,_,M,E,x,by rw[QF,d.ks];rfl,by rw[QF,d.ks] at n;exact n,λy W=> ?_,?_⟩
   ·rcases Qr.mp W with W|W
    ·exact d.ka y W
    ·cases Qk.mp W;exact Y
   ·rw[QF];exact d.v.append ⟨v,[],rfl,hv,rfl⟩
  |some j=>
   have N:(Y1 xs k).isSome=Jc:=by rw[<-d.some_,q];rfl
   obtain⟨K,Z⟩:=WX.mp N;rw[storedH_old Z] at x n;refine⟨g,c,_,M,E,x,by rw[keys_map_putAt,d.ks],d.ks▸F,λy W=> ?_,?_⟩
   ·obtain⟨z,T,rfl⟩:=Ql.mp W;have:=d.ka z T;unfold putAt;by_cases w:z.1=k
    ·rw[Uh w];exact this
    ·rw[Ug w];exact this
   ·rw[qM k v (d.ks▸q) F];exact d.v.set j hv
 have u:(kset ks l k p).needs C.ok a:=by
  have:a≠JE:=m.rich a _ e;unfold kset;cases kidx ks k<;>exact this
 exact Sim.upd m e rfl H J r u
end
end
section
open PyProof.Rows
section
variable{C:Cx}{A:Jj}{Er:Jf->Je->Prop}{σ:PH}{s:Je}{Q:Post}{n:Nat}{fr:List Js}
mutual
theorem Rd.reads(m:Sim C σ h):∀ (d:YV) (p:PV) (v:Jf),d.canLay0=Jc->Rd σ d p->VR C σ h p v->∃as,Reads h v d as
 | .none=>λp v o0 r x=>by change _=_ at r;subst r;change _=_ at x;subst x;exact⟨_,.none⟩
 | .bool b=>λp v o0 r x=>by change _=_ at r;subst r;change _=_ at x;subst x;exact⟨_,.bool b⟩
 | .int i=>λp v o0 r x=>by change _=_ at r;subst r;obtain⟨t,rfl⟩:=x;exact⟨_,.int i t⟩
 | .str y=>λp v o0 r x=>by obtain⟨z,rfl,rfl⟩:=r;obtain⟨t,rfl⟩:=x;exact⟨_,.str _ t⟩
 | .tuple ds=>λp v c r x=>by
  obtain⟨l,rfl,r⟩:=r;obtain⟨a,n,vs,rfl,O,N,Y⟩:=x;obtain⟨as,Z⟩:=Rds.reads m ds l vs.toList (by simpa [PyData.canLay0] using c) r Y;exact⟨_,.tuple N rfl rfl Z⟩
 | .list ds=>λp v c r x=>by
  obtain⟨a,l,rfl,e,r⟩:=r;change _=_ at x;subst x;obtain⟨vs,n,N,Y⟩:=m.list e;obtain⟨as,Z⟩:=Rds.reads m ds l vs.toList (by simpa [PyData.canLay0] using c) r Y;exact⟨_,.list N rfl rfl Z⟩
 | .dict ds=>λp v c r x=>r.elim
theorem Rds.reads(m:Sim C σ h):∀ (ds:List YV) (l:List PV) (vs:List Jf),PyData.canLayAll0 ds=Jc->Rds σ ds l->VRs C σ h l vs->∃as,ReadsAll h vs ds as
 |[]=>λl vs o0 r x=>by change _=_ at r;subst r;change _=_ at x;subst x;exact⟨_,.nil⟩
 |d::ds=>λl vs c r x=>by
  obtain⟨p,ps,rfl,f,M⟩:=r;obtain⟨v,U,rfl,R,W⟩:=x;have K:d.canLay0=Jc/\PyData.canLayAll0 ds=Jc:=by simpa [PyData.canLayAll0] using c
  obtain⟨as,Z⟩:=Rd.reads m d p v K.1 f R;obtain⟨bs,D⟩:=Rds.reads m ds ps U K.2 M W;exact⟨_,.cons Z D⟩
end
theorem gS:∀ {ds:List YV},(∀d∈ds,d.canLay0=Jc)->PyData.canLayAll0 ds=Jc
 |[]=>λo0=>rfl
 |d::ds=>λh=>by simp only[PyData.canLayAll0,h d (.head _),gS λx hx=>h x (.tail _ hx),Bool.and_self]
theorem ko:∀ {ds:List YV},(∀d∈ds,d.depth<=n)->PyData.depthAll ds<=n
 |[]=>λo0=>by simp[PyData.depthAll]
 |d::ds=>λh=>by
  exact Nat.max_le.mpr ⟨h d<|.head _,ko λx hx=>h x<|.tail _ hx⟩
theorem VP.bool{S:Jg->Prop}{K:Bool->PH->Prop}(m:Sim C σ s.heap)(q:K b σ):VP C S σ s (λv σ'=>∃b,v= .bool b/\K b σ') (.bool b) s:=
 VP.here m rfl (Rest.refl s) fW ⟨b,rfl,q⟩
theorem tM{K:Bool->PH->Prop}{f:Bool->Bool}(m:Sim C σ s.heap)(Z:VR C σ s.heap a M)(r:VR C σ s.heap b q)(w:onD σ (λks o0=>oK (λk=>K (f (kidx ks k).isSome) σ) (keyOf a)) b)
  (k:∀E d xs i,(tk C.prog C.w).is s.heap i E->(d==JE)=Jd->s.heap.DictOfH (tk C.prog C.w) d xs->(∀tk,VP C none1 σ s (λv σ'=>∃b,v= .bool b/\K b σ') (.bool (f (Y1 xs i).isSome)) {s with toks:=tk})->
   Jh (Mo C) A (YY o (.ref E) (.ref d)) (VP C none1 σ s λv σ'=>∃b,v= .bool b/\K b σ') Er s):Jh (Mo C) A (YY o M q) (VP C none1 σ s λv σ'=>∃b,v= .bool b/\K b σ') Er s:=by
 obtain⟨d,ks,l,rfl,e,j⟩:=iD w;obtain⟨i,x,B⟩:=i3 j;obtain⟨xs,D⟩:=m.dict e;obtain⟨P,rfl,h⟩:=lK x Z;change _=_ at r;subst r;refine k P d xs i h.is D.sys D.of λtk=> ?_;exact VP.here (s:=s) m rfl ⟨rfl,rfl⟩ fW ⟨_,rfl,by rw[<-D.some_];exact B⟩
theorem zP(ho:mC op o=Jc){K:Bool->PH->Prop}(m:Sim C σ s.heap)(hu:A.units+100<cLine)(ra:VR C σ s.heap a va)(rb:VR C σ s.heap b vb)(w:wcmp op a b σ K):
  Jh (Mo C) A (YY o va vb) (VP C none1 σ s λv σ'=>∃b,v= .bool b/\K b σ') Er s:=by
 cases (Uf ho);have two:∀ {f:Int->Int->Bool} {o:CmpOp},wrel f a b σ K->(∀x y t u,K (f x y) σ->Jh (Mo C) A (YY o (.int x t)<|.int y u) (VP C none1 σ s λv σ'=>∃b,v= .bool b/\K b σ') Er s)->Jh (Mo C) A (YY o va vb) (VP C none1 σ s λv σ'=>∃b,v= .bool b/\K b σ') Er s:=λw k=>by
  obtain⟨x,e,w⟩:=du w;obtain⟨y,e',w⟩:=du w;subst e e';obtain⟨t,rfl⟩:=ra;obtain⟨u,rfl⟩:=rb;exact k x y t u w
 have inn:∀ {K':Bool->PH->Prop},onL σ (λl=>X2 λc ds=>A5 (Rd σ c a) (Rds σ ds l) (okD c) ((∀d∈ds,okD d))<|K' (ds.any λd=>PyData.eqv d c) σ) b->X4 λc ds as bs=>A6 (Reads s.heap vb (.list ds) bs) (Reads s.heap va c as) (PyData.canLayAll0 ds=Jc) (c.canLay0=Jc) ((A.units+min (PyData.depthAll ds) c.depth+2<cLine)) (K' (ds.any λd=>PyData.eqv d c) σ):=λw=>by
  obtain⟨r,l,rfl,e,c,ds,r1,r2,k1,k2,w⟩:=fw w;obtain⟨as,q1⟩:=Rd.reads m c a va k1.1 r1 ra;obtain⟨bs,q2⟩:=Rd.reads m (.list ds) (.ref r) vb (gS λd hd=>(k2 d hd).1) ⟨r,l,rfl,e,r2⟩ rb;have h1:=ko λd hd=>(k2 d hd).2;exact⟨c,ds,as,bs,q2,q1,gS λd hd=>(k2 d hd).1,k1.1,by exact zmn2 hu h1,w⟩
 induction op with
 |eq=>
  obtain⟨c,d,r1,r2,k1,k2,w⟩:=w;obtain⟨as,q1⟩:=Rd.reads m c a va k1.1 r1 ra;obtain⟨bs,q2⟩:=Rd.reads m d b vb k2.1 r2 rb;have:=k1.2;exact SeqAt.compareEq_reads q1 q2 k1.1 k2.1 (by exact zmn hu this)<|VP.bool m w
 |ne=>
  obtain⟨c,d,r1,r2,k1,k2,w⟩:=w;obtain⟨as,q1⟩:=Rd.reads m c a va k1.1 r1 ra;obtain⟨bs,q2⟩:=Rd.reads m d b vb k2.1 r2 rb;exact SeqAt.compareNe_shaped q1 q2 (Qh.mpr ⟨k1.1,Ud<|zb2 k1.2 rfl⟩) (Qh.mpr ⟨k2.1,Ud<|zb2 k2.2 rfl⟩) (by exact zl (KJ (by decide) _) hu)<|VP.bool m w
 |lt=>exact two w λx y t u w=>P.lt_int<|VP.bool m w
 |le=>exact two w λx y t u w=>P.le_int<|VP.bool m w
 |gt=>exact two w λx y t u w=>P.gt_int<|VP.bool m w
 |ge=>exact two w λx y t u w=>P.ge_int<|VP.bool m w
 |in_=>
  rcases w with w|w
  ·exact tM (f:=id) m ra rb w λka d xs kk h1 h2 h3 h4=>wpAny_in_heap (iM hu) h1 h2 h3<|h4 _
  obtain⟨c,ds,as,bs,q2,q1,h1,h2,h3,w⟩:=inn w;exact SeqAt.in_list_reads q2 q1 h1 h2 (by exact zr4 h3)<|VP.bool m w
 |nin=>
  rcases (show onD σ (λks o0=>oK (λk=>K (!(kidx ks k).isSome) σ)<|keyOf a) b\/_ from w) with w|w
  ·exact tM (f:=not) m ra rb w λka d xs kk h1 h2 h3 h4=>wpAny_notIn_heap (iM hu) h1 h2 h3<|h4 _
  obtain⟨c,ds,as,bs,q2,q1,h1,h2,h3,w⟩:=inn (K':=λr σ=>K (!r) σ) w;exact SeqAt.notIn_list_reads q2 q1 h1 h2 (by exact zr4 h3)<|VP.bool m w
end
end
section
open PyProof.Rows
section
variable{C:Cx}{A:Jj}{Er:Jf->Je->Prop}{σ:PH}{s:Je}{Q:Post}{n:Nat}{fr:List Js}
theorem VP.kept{S:Jg->Prop}{s':Je}(m:Sim C σ s.heap)(k:∀b o,s.heap.get? b=Ja o->s'.heap.get? b=Ja o)(r:Rest s s')(hv:VR C σ s.heap p v)(q:Q p σ):VP C S σ s Q v s':=
 ⟨p,σ,hv.step<|Step.more (S:=none1) k,m.more k,.more k,r,q⟩
theorem VP.keptNew{S:Jg->Prop}{o:PO}{s':Je}(m:Sim C σ s.heap)(k:∀b o,s.heap.get? b=Ja o->s'.heap.get? b=Ja o)(r:Rest s s')(g:s.heap.get? a=Jb)
  (e:s'.heap.get? a=Ja W)(T:∀σ',Step S σ s.heap σ' s'.heap->OR C σ' s'.heap o W)(q:wnew o σ Q)(d:o.needs C.ok a):VP C S σ s Q (.ref a) s':=by
 have E:σ a=Jb:=by
  induction h:σ a with
  |none=>rfl
  |some p=>obtain⟨W,N,o0⟩:=m.objs a p h;exact ns<|g.symm.trans N
 have R:C.B.get? a=Jb:=by
  induction h:C.B.get? a with
  |none=>rfl
  |some p=>have:=m.base a p h;exact ns<|g.symm.trans this
 have t:Step S σ s.heap (σ.set a o) s'.heap:=(Step.more k).add o g E;exact⟨.ref a,σ.set a o,rfl,m.add t (λx i e=>by obtain⟨P,N,o0⟩:=m.objs x i e;exact(k _ _ N).trans N.symm) (λb o e=>k b o<|m.base b o e) e R (T _ t) d,t,r,q a E⟩
theorem iK(h:Ji):h.get? h.objs.size=Jb:=by
 induction e:h.get? h.objs.size with
 |none=>rfl
 |some x=>exact absurd (QH e)<|KG _
theorem VRs.ints:∀ {l:List PV} {is:List Int} {vs:List Jf},dM l=Ja is->VRs C σ h l vs->∀ (i:Nat) (v:Jf),vs[i]? =Ja v->∃t,v= .int (is.getD i 0) t
 |[]=>λe r i v hv=>by change _=_ at r;subst r;simp at hv
 | .int k::l=>λe r i v hv=>by
  replace e:=Qu.mp e;obtain⟨j,T,rfl⟩:=e;obtain⟨w,ws,rfl,f,M⟩:=r
  induction i using Nat.casesOn with
  |zero=>simp at hv;subst hv;exact f
  |succ i=>simp at hv;simpa using VRs.ints T M i v hv
 | .none::l=>λe r i v hv=>onx e
 | .bool b::l=>λe r i v hv=>onx e
 | .str b::l=>λe r i v hv=>onx e
 | .tup b::l=>λe r i v hv=>onx e
 | .ref b::l=>λe r i v hv=>onx e
 | .scr b::l=>λe r i v hv=>onx e
theorem em:∀ {l:List PV} {is:List Int},dM l=Ja is->is.length=l.length
 |[]=>λe=>by obtain rfl:=sj e;rfl
 | .int k::l=>λe=>by
  replace e:=Qu.mp e;obtain⟨j,T,rfl⟩:=e;simp[em T]
 | .none::l=>λe=>onx e
 | .bool b::l=>λe=>onx e
 | .str b::l=>λe=>onx e
 | .tup b::l=>λe=>onx e
 | .ref b::l=>λe=>onx e
 | .scr b::l=>λe=>onx e
theorem VRs.bools:∀ {l:List PV} {is:List Bool} {vs:List Jf},er l=Ja is->VRs C σ h l vs->is.length=l.length/\∀ (i:Nat) (v:Jf),vs[i]? =Ja v->v= .bool (is.getD i Jd)
 |[]=>λe r=>by obtain rfl:=sj e;change _=_ at r;subst r;simp
 | .bool k::l=>λe r=>by
  replace e:=Qu.mp e;obtain⟨j,T,rfl⟩:=e;obtain⟨w,ws,rfl,f,M⟩:=r;obtain⟨P,U⟩:=VRs.bools T M;refine⟨by simp[P],λi v hv=> ?_⟩
  induction i using Nat.casesOn with
  |zero=>simp at hv;subst hv;exact f
  |succ i=>simp at hv;simpa using U i v hv
 | .none::l=>λe r=>onx e
 | .int b::l=>λe r=>onx e
 | .str b::l=>λe r=>onx e
 | .tup b::l=>λe r=>onx e
 | .ref b::l=>λe r=>onx e
 | .scr b::l=>λe r=>onx e
theorem kg:∀ (is:List Int) (n:Nat),n<=is.length->preSum (λi=>is.getD i 0) n=(is.take n).sum
 |is,0=>λo0=>by simp[preSum]
 |is,n+1=>λh=>by
  rw[preSum,kg is n<|by exact Kj h,List.take_add_one,WE];have:is[n]? =Ja is[n]:=Qf (by exact h);simp[List.getD,this]
theorem sg(bs:List Bool):((Qc bs.length).all λi=>bs.getD i Jd)=bs.all id:=by
 rw[Kz];simp only[Qy,Qg,id]
 constructor
 ·intro h b R;obtain⟨i,t,rfl⟩:=Wh R;have:=h i t
  simpa [List.getD,t] using this
 ·intro h i t;have:=h bs[i] (KQ t)
  simpa [List.getD,t] using this
theorem j5{R:Jf->Je->Prop}(T:s.heap.get? l=Ja (lstO vs k))
  (h:∀I,I=s.heap.objs.size->l≠I->(s.heap.push {cls:= .type "list_iterator",data:= .fields #[.ref l,.int 0 0]}).IsListIter I l 0->
   (s.heap.push {cls:= .type "list_iterator",data:= .fields #[.ref l,.int 0 0]}).IsList l vs->R (.ref I) {s with heap:=s.heap.push {cls:= .type "list_iterator",data:= .fields #[.ref l,.int 0 0]}}):
  Jh (Mo C) A (YT<|.ref l) R Er s:=
 wpAny_pyIter_list ⟨_,T,rfl,k,rfl⟩ (h _ rfl (Kn<|QH T) ⟨_,QG _ rfl,rfl,rfl⟩ ⟨_,Qm _ T,rfl,k,rfl⟩)
theorem z8{is:List Int}(f:HOK A s.heap)(m:Sim C σ s.heap)(e:σ a=Ja (.list l))(hi:dM l=Ja is)(q:Q (.int is.sum) σ):
  Jh (Mo C) A (call (.builtin "sum") [.ref a]) (VP C none1 σ s Q) Er s:=by
 obtain⟨J,k,N,Y⟩:=m.list e;obtain⟨as,S,t⟩:=f.as;refine call_sum_walkAnyS (j5 N λI p U j T=> ?_);have g:J.size=is.length:=by rw[em hi];simpa using Y.length
 refine⟨I,_,_,_,_,_,_,λi=>is.getD i 0,rfl,(lB (prog:=C.prog) (w:=C.w) (A:=A.in1) I a U J as S λb h q=>Kn (t b h)<|q.trans p).toS,⟨⟨j,T⟩,f.keep λb o Z=>Qm _ Z⟩,?_,?_,λG y mv=> ?_⟩
 ·intro b h;simp only[Qx] at h
  rcases h with rfl|rfl|h
  ·rw[p];simp
  ·show _<(s.heap.push _).objs.size;rw[Kh];exact KU<|QH N
  ·show _<(s.heap.push _).objs.size;rw[Kh];exact KU<|t b h
 ·intro i v hv;exact VRs.ints hi Y i v<|by simpa using hv
 ·rw[g,kg is _<|QA _,WF (QA _)];refine VP.kept m (λb o Z=>mv.heap b o ?_<|Qm _ Z) ⟨mv.gens,mv.os⟩ (ey _) q;simp only[Qk];rintro rfl;rw[p,iK] at Z;exact ns Z
theorem yM{bs:List Bool}(f:HOK A s.heap)(m:Sim C σ s.heap)(e:σ a=Ja (.list l))(hi:er l=Ja bs)(q:Q (.bool (bs.all id)) σ):
  Jh (Mo C) A (call (.builtin "all") [.ref a]) (VP C none1 σ s Q) Er s:=by
 obtain⟨J,k,N,Y⟩:=m.list e;obtain⟨as,S,t⟩:=f.as;refine call_all_walk (j5 N λI p U j T=> ?_);obtain⟨d,V⟩:=VRs.bools hi Y;have g:J.size=bs.length:=by rw[d];simpa using Y.length
 refine⟨I,_,_,_,_,_,λi=>bs.getD i Jd,rfl,lB (prog:=C.prog) (w:=C.w) (A:=A.in1) I a U J as S λb R q=>Kn (t b R)<|q.trans p,⟨⟨j,T⟩,f.keep λb o h=>Qm _ h⟩,?_,λW tk M=> ?_⟩
 ·intro i v G r E hv X;rw[V i v (by simpa using hv)];exact wpAny_truthy_bool X
 ·rw[g,sg];refine VP.kept m (λb o h=>M b o ?_<|Qm _ h) ⟨rfl,rfl⟩ fW q;simp only[Qk];rintro rfl;rw[p,iK] at h;exact ns h
set_option tactic.hygienic true in
theorem z0(m:Sim C σ s.heap)(r:VR C σ s.heap p v)(e:plen σ p=Ja k)(M:k<=lim)(q:Q (.int k) σ):
  Jh (Mo C) A (call (.builtin "len") [v]) (VP C none1 σ s Q) Er s:=by
 have R:k<=1000000:=M
 induction p using PV.casesOn with
 |ref a=>
  change _=_ at r;subst r;obtain⟨l,T,rfl⟩:=t1 (show lenO (σ a)=Ja k from e);obtain⟨w,j,N,Y⟩:=m.list T;have h:w.size=l.length:=by simpa using Y.length
  refine Calls.call_len_list ⟨_,N,rfl,j,rfl⟩ (by rw[h];exact zi3 R) ?_;rw[h];exact VP.here m rfl ⟨rfl,rfl⟩ (ey _) q
 |tup l=>
  obtain rfl:=sj e;obtain⟨a,j,w,rfl,W,N,Y⟩:=r;have h:w.size=l.length:=by simpa using Y.length
  refine P.len_tuple N (by rw[h];exact Yl.mpr<|zi3 R) ?_;rw[h];exact VP.here m rfl ⟨rfl,rfl⟩ (ey _) q
 |scr l=>
  obtain rfl:=sj e;obtain⟨a,o,j,w,rfl,N,Y,J,h,o0⟩:=r;refine Calls.call_len_list ⟨_,m.base _ _ N,Y,j,J⟩ (by rw[h];exact zi3 R) ?_;rw[h];exact VP.here m rfl ⟨rfl,rfl⟩ (ey _) q
 |_=>exact ns e
theorem iH:∀ {is:List Int},is≠ []->lmin is∈is/\∀a∈is,lmin is<=a
 |x::r,_=>by
  have key:∀ (r:List Int) (x:Int),(r.foldl min x=x\/r.foldl min x∈r)/\r.foldl min x<=x/\∀a∈r,r.foldl min x<=a:=by
   intro r
   induction r with
   |nil=>intro x;exact⟨.inl rfl,Kc _,λa T=>(bQ T)⟩
   |cons y r i=>
    intro x;obtain⟨N,p,J⟩:=i<|min x y;refine⟨?_,QN p<|Int.min_le_left _ _,λa T=> ?_⟩
    ·rcases N with N|N
     ·show r.foldl min (min x y)=x\/r.foldl min (min x y)∈y::r;rw[N]
      rcases Int.le_total x y with q|q
      ·exact .inl<|Int.min_eq_left q
      ·rw[Int.min_eq_right q];exact .inr<|.head _
     ·exact .inr<|.tail _ N
    ·cases T with
     |head=>exact QN p<|Int.min_le_right _ _
     |tail _ T=>exact J a T
  obtain⟨N,p,J⟩:=key r x;refine⟨N.elim (λh=>by show r.foldl min x∈x::r;rw[h];exact .head _)<|.tail _,λa T=> ?_⟩;cases T with
  |head=>exact p
  |tail _ T=>exact J a T
theorem v8{is:List Int}(h:M∈is)(p:∀a∈is,M<=a):lmin is=M:=by
 obtain⟨P,k⟩:=iH (is:=is) (λq=>by rw[q] at h;cases h);exact WC (k M h)<|p _ P
theorem zv{is:List Int}(f:A.handled=Jb)(m:Sim C σ s.heap)(e:σ a=Ja (.list l))(hi:dM l=Ja is)(U:is≠ [])(q:Q (.int (lmin is)) σ):
  Jh (Mo C) A (call (.builtin "min") [.ref a]) (VP C none1 σ s Q) Er s:=by
 obtain⟨J,k,E,p⟩:=m.list e;refine call_min_walk (j5 E λI W R L T=> ?_);have g:J.size=is.length:=by rw[em hi];exact p.length
 have h:0<is.length:=List.length_pos_iff.mpr U;refine⟨I,_,_,_,_,_,_,rfl,Walks.list (prog:=C.prog) (w:=C.w) (A:=A.in1) f I a R J,⟨L,T⟩,?_,g▸h,CmpOf.ints_lt (λi=>is.getD i 0)<|λi v hv=>VRs.ints hi p i v<|by simpa using hv,λv y tk P M=> ?_⟩
 ·intro b S;simp only[Qx,Ki,or_false] at S
  rcases S with rfl|rfl
  ·rw[W];simp
  ·show _<(s.heap.push _).objs.size;rw[Kh];exact KU<|QH E
 ·obtain⟨t,rfl⟩:=VRs.ints hi p _ v (by simpa using P);obtain⟨d,V⟩:=argBest_lt (λi=>is.getD i 0)<|J.size-1;have N:argBest (λi j=>decide<|is.getD i 0<is.getD j 0) (J.size-1)<is.length:=by exact zl d (zq (Nat.sub_lt (zq h g.symm) Nat.one_pos) g)
  have u:is.getD (argBest (λi j=>decide<|is.getD i 0<is.getD j 0)<|J.size-1) 0∈is:=by
   rw[List.getD_eq_getElem?_getD,Qf N];exact KQ N
  rw[v8 u λx hx=> ?_] at q
  ·refine VP.kept m (λb o Z=>M b o ?_<|Qm _ Z) ⟨rfl,rfl⟩ (ey _) q;simp only[Qk];rintro rfl;rw[W,iK] at Z;exact ns Z
  ·obtain⟨j,H,rfl⟩:=Wh hx;have:=V j (by exact Nat.le_sub_one_of_lt<|zq H g.symm);rw[List.getD_eq_getElem?_getD (i:=j),Qf H] at this;exact this
theorem ru{vs:Array Jf}(Y:T="list"\/T="tuple")(m:Sim C σ s.heap)(N:s.heap.get? a=Ja {cls:= .type T,data:= .seq vs k})(p:VRs C σ s.heap l vs.toList)
  (hz:Okl l) (q:wnew (.list l) σ Q):Jh (Mo C) A (call (.type "list") [.ref a]) (VP C none1 σ s Q) Er s:=by
 have g:vs.size=l.length:=by simpa using p.length
 have h:l.length<=1000000:=hz;refine call_list_seq a Y N rfl rfl (λS c M e=> ?_) (by simp[JM];exact zle (QS g)<|zb2 h rfl);exact VP.keptNew (o:= .list l) m M ⟨rfl,rfl⟩ (iK _) e (λX t=>⟨vs,c,rfl,p.step t⟩) q trivial
theorem rc:∀ {xs:XS},(∀y∈xs,KeyAt C σ h y.1 y.2.1)->VRs C σ h ((xs.map (·.1)).map keyPV) (xs.map λy=> .ref y.2.1)
 |[]=>λo0=>rfl
 |x::xs=>λk=>by
  obtain⟨n,w,m,g,i⟩:=k x<|.head _;refine⟨_,_,rfl,⟨_,m,w,rfl,n,g,?_⟩,rc λy S=>k y<|.tail _ S⟩;clear g;show VRs C σ h (x.1.map KA.pv) w.toList;generalize w.toList=l at i ⊢;generalize x.1=D at i ⊢
  induction i with
  |nil=>exact rfl
  |@cons a v L w N _ W=>
   refine⟨v,w,rfl,?_,W⟩
   induction a with
   |n j=>exact gp N
   |t s=>exact gq N
theorem sN{ks:List (List KA)}(f:A.handled=Jb)(m:Sim C σ s.heap)(e:σ a=Ja (.dict ks l))(hz:Okl (ks.map keyPV))(q:wnew (.list (ks.map keyPV)) σ Q):
  Jh (Mo C) A (call (.type "list") [.ref a]) (VP C none1 σ s Q) Er s:=by
 obtain⟨P,D⟩:=m.dict e;obtain⟨o,U,p,g,M,E,x,o0⟩:=D.of;have r:U.size=ks.length:=by rw[YN x,<-D.ks,Qd]
 refine W.kdl_call (wx (es:=U) (ep:=p) D.sys) f ⟨o,g,M,E⟩ (by rw[r,JZ];have:(ks.map keyPV).length<=1000000:=hz;rw[Qd] at this;exact zb2 this rfl) λR tk c K k d h=> ?_;refine VP.keptNew (o:= .list (ks.map keyPV)) m k ⟨rfl,rfl⟩ (iK _) d (λY X=>⟨c,K,rfl,?_⟩) q trivial;have:c.toList=P.map λy=> .ref y.2.1:=by
  refine WI λi=> ?_;rw[Array.getElem?_toList,Qw];by_cases t:i<c.size
  ·obtain⟨N,T,w⟩:=h.2 i c[i] (KK t);rw[entry_at x] at T;obtain⟨y,S,u⟩:=Qu.mp T;rw[KK t,S,w,<-u];rfl
  ·have B:P.length<=i:=by rw[<-YN x];have:=h.1;exact zle (QS this.symm) (Kd.mp t)
   rw[Wk (Kd.mp t),KX B];rfl
 rw[this,<-D.ks];exact(rc D.ka).step X
theorem oQ:∀ {l:List PV} {is:List Int} {vs:List Jf},dM l=Ja is->VRs C σ h l vs->IntsAre vs is
 |[],is,vs,e,r=>by change _=_ at r;subst r;obtain rfl:=sj e;exact .nil
 |p::l,is,vs,e,r=>by
  obtain⟨v,U,rfl,f,M⟩:=r
  induction p using PV.casesOn with
  |int i=>
   obtain⟨j,T,rfl⟩:=Qu.mp (show(dM l).map (i:: ·)=Ja is from e);obtain⟨t,rfl⟩:=f;exact .cons i t<|oQ T M
  |_=>first|exact onx e|cases e
theorem xA:∀ {is:List Int} {vs:List Jf},IntsAre vs is->VRs C σ h (is.map .int) vs:=λr=>by
 induction r with
 |nil=>rfl
 |cons i t r W=>exact⟨_,_,rfl,⟨t,rfl⟩,W⟩
theorem sB{is:List Int}(m:Sim C σ s.heap)(e:σ a=Ja (.list l))(hi:dM l=Ja is)(T:is.length<64)(q:∀j:List Int,j.Perm is->j.Pairwise (· <= ·)->wlist (j.map .int) σ Q):
  Jh (Mo C) A (call (.builtin "sorted") [.ref a]) (VP C none1 σ s Q) Er s:=by
 obtain⟨v,k,N,h⟩:=m.list e;have g:v.toList.length=is.length:=by rw[em hi];exact h.length
 refine sorted_ints (vs:=v.toList) (ns:=is) (by rw[Array.toArray_toList];exact⟨_,N,rfl,k,rfl⟩) (oQ hi h) (by exact zl (QS g) T) λu f F L H=> ?_;obtain⟨S,O⟩:=sortedAll_at s.heap v.toList u;exact VP.keptNew (o:= .list (f.map .int)) m (λo0 o0=>sortedAll_old) ⟨rfl,rfl⟩ (WL<|WG _) O (λX t=>⟨_,S,rfl,xA F⟩) (q f L H).2 trivial
end
end
section
open PySem.W
noncomputable def hsh(i j:Int):Int:=reduceHash<|Builtin.Tuple.tupleHashOf [hashInt i,hashInt j]
theorem wU:((Qc 64).map λi=>hsh ((i / 8:Nat):Int) ((i % 8:Nat):Int)).Nodup:=by decide+kernel
theorem vv{L:Type}{l:List L}(h:l.Nodup){i j:Nat}{a:L}(N:l[i]? =Ja a)(p:l[j]? =Ja a):i=j:=by
 obtain⟨o,q⟩:=QI.mp N;obtain⟨r,Z⟩:=QI.mp p;exact(List.getElem_inj h).mp (q.trans Z.symm)
theorem Bp{a b c d:Nat}(h:a=c)(k:b=d):hsh a b=hsh c d:=by subst h k;rfl
theorem v6{a b Y b':Nat}(E:a<8)(h:b<8)(J:Y<8)(w:b'<8)(e:hsh a b=hsh Y b'):a=Y/\b=b':=by
 have N:=wU;generalize j:(λi:Nat=>hsh ((i / 8:Nat):Int) ((i % 8:Nat):Int))=f at N;have at_:∀x y:Nat,x<8->y<8->((Qc 64).map f)[8*x+y]? =Ja (hsh x y):=λx y hx W=>by
  have u:f (8*x+y)=hsh x y:=(congrFun j<|8*x+y).symm.trans (Bp (zh1 W)<|zh2 W);have T:(Qc 64)[8*x+y]? =Ja (8*x+y):=Wu<|zh3 hx W;exact(Qw (f:=f) (l:=Qc 64) (i:=8*x+y)).trans ((Uk (Wt f) T).trans (Uk Ja u))
 have:=vv N (at_ a b E h)<|(at_ Y b' J w).trans (Uk Ja e.symm);exact⟨(zh1 h).symm.trans ((Uk (· / 8) this).trans (zh1 w)),(zh2 h).symm.trans ((Uk (· % 8) this).trans (zh2 w))⟩
theorem ve{prog:Jn}{w:Jm}{k v:List KA}(h:dB k=Jc)(S:dB v=Jc)(e:(tk prog w).hash k=(tk prog w).hash v):k=v:=by
 obtain⟨a,b,rfl,N,p⟩:=jh h;obtain⟨Y,c,rfl,J,O⟩:=jh S;obtain⟨rfl,rfl⟩:=v6 N p J O (show hsh a b=hsh Y c from e);rfl
theorem k8{L:Type}{f:L->Int}:∀ {l:List L},(l.map f).Nodup->(l.filter λx=>f x==c).length<=1
 |[]=>λo0=>QY _
 |a::l=>λh=>by
  obtain⟨N,Y⟩:=Qz.mp h;by_cases q:(f a==c)=Jc
  ·rw[Kt (p:=λx=>f x==c) q];have:l.filter (λx=>f x==c)=[]:=Ym.mpr λx hx z=>N<|Ql.mpr ⟨x,hx,(Ui z).trans (Ui q).symm⟩;rw[this];exact QA _
  ·rw[Ku (p:=λx=>f x==c) q];exact k8 Y
section
variable{C:Cx}{σ:PH}{s:Je}{A:Jj}{Er:Jf->Je->Prop}
theorem uB{Q:Bool->Je->Prop}(q:(tk C.prog C.w).is s.heap k a)(h:Q Jd s):Jh (Mo C) A (Builtin.Dict.quietEq (.ref a)) Q Er s:=by
 show Jh _ _ (specialOf (.ref a) "__eq__">>=_) _ _ _;exact YA<|wpAny_specialOf (show s.TypeIs (.ref a) "tuple" from IsTupleKey.typeIs q) F.slot_tuple_eq.lookup (YB h)
theorem qv{id:String}{d:Jg}{o:Jp}{es:Array JR}{ep:Nat}{xs:List (List KA×Jg×Jf)}{Q:Array JR->Je->Prop}(w:s.heap.get? d=Ja o)(v:o.data= .dict es ep)(O:es.toList=xs.map (JP (tk C.prog C.w)))(hi:∀x∈xs,(tk C.prog C.w).is s.heap x.1 x.2.1)
  (c:(xs.map (·.1)).Nodup)(E:∀x∈xs,dB x.1=Jc)(h:Q es s):Jh (Mo C) A (Builtin.Dict.entriesForEmpty id d) Q Er s:=by
 have n:(es.toList.map (·.hash)).Nodup:=by
  rw[O,QB];have:xs.map ((λx=>x.hash)∘JP (tk C.prog C.w))=(xs.map (·.1)).map (tk C.prog C.w).hash:=by rw[QB];rfl
  rw[this,QT,Wp];rw[QT] at c;refine c.imp_of_mem λ{a b} T R Y q=>Y ?_;obtain⟨x,hx,rfl⟩:=Ql.mp T;obtain⟨y,W,rfl⟩:=Ql.mp R;exact ve (E x hx) (E y W) q
 unfold Builtin.Dict.entriesForEmpty;refine YA<|wpAny_dictEntries w v ?_;refine YA ?_;rw[<-Array.forIn_toList];refine wpAny_forIn_list _ (λr o0 g=>g=s/\∀e∈r,e∈es.toList) _ ?_ ?_ _ _ ⟨rfl,λo0 e=>e⟩
 ·rintro e r b g ⟨rfl,l⟩;obtain⟨x,hx,rfl⟩:=Ql.mp<|O▸l e Kq;refine YA<|uB (hi x hx) ?_;have N:¬ (es.filter (·.hash==(JP (tk C.prog C.w) x).hash)).size>1:=by
   rw[<-Array.length_toList,Array.toList_filter];exact Kd.mpr<|k8 n
  refine wy rfl<|wn N (YB ⟨rfl,λi S=>l i<|Kl _ S⟩)
 ·rintro b g ⟨rfl,o0⟩;exact YB h
theorem vH{nm:String}{d o:Jg}{od X:Jp}{es:Array JR}{xs:List (List KA×Jg×Jf)}{Q:Unit->Je->Prop}(V:d≠o)(S:(o==JE)=Jd)(Y:s.heap.get? d=Ja od)(I:od.data= .dict #[] p)
  (w:s.heap.get? o=Ja X)(v:X.data= .dict es ep)(O:es.toList=xs.map (JP<|tk C.prog C.w))(hi:∀x∈xs,(tk C.prog C.w).is s.heap x.1 x.2.1)(g:(xs.map (·.1)).Nodup)(E:∀x∈xs,dB x.1=Jc)(n:xs≠ [])(hsz:xs.length<=JM)
  (h:Q () {s with heap:=s.heap.update d (Obj.mapDictKeys λo0=>es)}):Jh (Mo C) A (Builtin.Dict.mergeDict nm d o) Q Er s:=by
 have l:es.size=xs.length:=YN O;have i:es.size≠0:=λq=>n<|Wx.mp (l.symm.trans q);unfold Builtin.Dict.mergeDict;refine wn (λq=>V<|eq_of_beq q) ?_;unfold Builtin.Dict.showsAll;refine YA<|wn (c:=(o==JE)=Jc) (by rw[S];exact QC) (YB ?_);refine YA<|wpAny_dictEntries w v ?_;have f:(es.all λe=>(keyPart e.key).isSome)=Jd:=by
  obtain⟨x,r,rfl⟩:=WN n;rw[<-Array.all_toList,O,Qo,List.all_cons];rfl
 refine wy (by rw[f,Bool.and_false];rfl) ?_;refine YA<|wpAny_dictEntries Y I ?_;refine wy rfl ?_;refine YA<|qv w v O hi g E ?_;refine wy (by rw[show es.isEmpty=Jd from by rw[Array.isEmpty_eq_false_iff];exact λq=>i (by rw[q];rfl)];rfl) ?_;exact YA<|wpAny_updateDictKeysTo Y I (YB h) (by rw[l];exact QD hsz<|WG _)
theorem vD{ks:List (List KA)}(m:Sim C σ s.heap)(e:σ a=Ja (.dict ks l))(hz:ks≠ []/\ks.length<=lim/\∀k∈ks,dB k=Jc)(q:wnew (.dict ks l) σ Q)(N:s.heap.objs.size≠JE):
  Jh (Mo C) A (call (.type "dict") [.ref a]) (VP C none1 σ s Q) Er s:=by
 obtain⟨P,D⟩:=m.dict e;obtain⟨o,U,p,g,M,E,J,L,t⟩:=D.of;have r:P.length=ks.length:=by rw[<-D.ks,Qd]
 have d:s.heap.objs.size≠a:=λq=>absurd (QH g) (by rw[q];exact KG _);refine callType_codes (Q₁:=λobj w=>obj= .ref s.heap.objs.size/\w={s with heap:=s.heap.push {cls:= .type "dict",data:= .dict #[]}}) F.kt_called_dict (F.kt_typeCall_dict_1 _) F.entry_dict_init (kt_code_dict_new _ ⟨rfl,rfl⟩) ?_;rintro obj w ⟨rfl,rfl⟩;have T:(⟨s.heap.push {cls:= .type "dict",data:= .dict #[]},s.gens,s.drawn,s.toks,s.os⟩:Je).TypeIs (.ref s.heap.objs.size) "dict":=⟨_,QG _ rfl,rfl⟩
 have X:(s.heap.push {cls:= .type "dict",data:= .dict #[]}).get? a=Ja o:=Qm _ g;have hTo:(⟨s.heap.push {cls:= .type "dict",data:= .dict #[]},s.gens,s.drawn,s.toks,s.os⟩:Je).TypeIs (.ref a) "dict":=⟨_,X,M.1⟩
 refine⟨T,F.args_dict_init_2 _ _,?_⟩;unfold Builtin.«dict.__init__»;refine YA ?_;unfold Builtin.Dict.selfAndRest;refine YA<|wpAny_notOrdered_dict T ?_;show Jh _ _ (pure (s.heap.objs.size,[Value.ref a])) _ _ _;refine YB ?_;show Jh _ _ (Builtin.Dict.updateFrom "dict.__init__" s.heap.objs.size (.ref a) [] .none) _ _ _;unfold Builtin.Dict.updateFrom;refine YA<|wpAny_typeOf hTo ?_;refine wn (by decide) ?_;refine YA ?_;unfold Builtin.Dict.merge;refine YA ?_;unfold Builtin.Dict.readDirectly;refine YA<|wpAny_isInstance hTo isSubtype_dict_dict ?_;refine wn (by decide) ?_;refine YA<|wpAny_specialOf hTo F.slot_dict_iter.lookup (YB ?_);refine wy (by decide+kernel) ?_;refine YA<|YB ?_;refine vH d D.sys (QG _ rfl) rfl X E J (λx hx=> ?_) t (λx hx=>hz.2.2 _<|D.ks▸Ql.mpr ⟨x,hx,rfl⟩) (λq=>hz.1<|by rw[<-D.ks,q];rfl) (by rw[r,JZ];exact zb2 hz.2.1 rfl) ?_
 ·exact((D.ka x hx).step (Step.push none1 σ s.heap _)).is
 show Jh _ _ (Builtin.Dict.addKeywords s.heap.objs.size []>>=_) _ _ _;refine YA<|YB (YB ⟨rfl,?_⟩);have kp:∀b W,s.heap.get? b=Ja W->((s.heap.push {cls:= .type "dict",data:= .dict #[]}).update s.heap.objs.size (Obj.mapDictKeys λo0=>U)).get? b=Ja W:=λb W h=>(Heap.get?_update_ne _ _ _ _<|Kn (QH h)).trans (Qm _ h);refine VP.keptNew (o:= .dict ks l) m kp ⟨rfl,rfl⟩ (iK _) (Ka _ (QG _ rfl) rfl) (λY Z=> ?_) q N;exact⟨U,_,P,⟨rfl,rfl,rfl⟩,rfl,J,D.ks,D.ks▸t,λy S=>(D.ka y S).step Z,D.v.step Z⟩
end
end
noncomputable def bty:List String:=["int","bool","list","tuple","dict"]
section
variable{C:Cx}{A:Jj}{Er:Jf->Je->Prop}{σ:PH}{s:Je}{Q:Post}{n:Nat}{fr:List Js}
theorem nG(h:T∈bty):YZ (.type "NoneType") (.type T)=pure Jd:=by
 rw[JT];simp only[bty,Qx,Ki,or_false] at h
 rcases h with rfl|rfl|rfl|rfl|rfl<;>kernel_rfl
theorem wh(h:T∈bty):YZ (.type "str") (.type T)=pure Jd:=by
 rw[JT];simp only[bty,Qx,Ki,or_false] at h
 rcases h with rfl|rfl|rfl|rfl|rfl<;>kernel_rfl
theorem sub_int(h:T∈bty):YZ (.type "int") (.type T)=pure (decide (T="int")):=by
 rw[JT];simp only[bty,Qx,Ki,or_false] at h
 rcases h with rfl|rfl|rfl|rfl|rfl<;>kernel_rfl
theorem n7(h:T∈bty):YZ (.type "bool") (.type T)=pure (decide (T="bool")||decide (T="int")):=by
 rw[JT];simp only[bty,Qx,Ki,or_false] at h
 rcases h with rfl|rfl|rfl|rfl|rfl<;>kernel_rfl
theorem nU(h:T∈bty):YZ (.type "list") (.type T)=pure (decide (T="list")):=by
 rw[JT];simp only[bty,Qx,Ki,or_false] at h
 rcases h with rfl|rfl|rfl|rfl|rfl<;>kernel_rfl
theorem mh(h:T∈bty):YZ (.type "tuple") (.type T)=pure (decide (T="tuple")):=by
 rw[JT];simp only[bty,Qx,Ki,or_false] at h
 rcases h with rfl|rfl|rfl|rfl|rfl<;>kernel_rfl
theorem dA(h:T∈bty):typeOf (.type T)=pure (.type "type"):=by
 simp only[bty,Qx,Ki,or_false] at h
 rcases h with rfl|rfl|rfl|rfl|rfl<;>kernel_rfl
theorem d6(h:U≠T):(Value.type T==Value.type U)=Jd:=by
 have:Value.type T≠Value.type U:=λe=>h<|by injection e with e;exact e.symm
 simpa using this
theorem zB(Y:T∈bty)(m:Sim C σ s.heap)(r:VR C σ s.heap p v)(H:isiV G σ p [T]=Ja b)(O:∀a c,p= .ref a->∀d,σ a≠Ja (.exc c d))(q:Q (.bool b) σ):
  Jh (Mo C) A (call (.builtin "isinstance") [v,.type T]) (VP C none1 σ s Q) Er s:=by
 have f:∀tk,VP C none1 σ s Q (.bool b) {s with toks:=tk}:=λtk=>VP.here m rfl ⟨rfl,rfl⟩ fW q
 induction p using PV.casesOn with
 |none=>
  change _=_ at r;subst r;obtain rfl:=sj (show Ja Jd=Ja b from H);have L:T≠"NoneType":=by rintro rfl;exact absurd Y<|by decide
  exact JA (S:=λo0 R s=>(λs:Je=>s.TypeIs .none "NoneType") s/\∀K,R (.ok<|.ret (.bool Jd)) {s with toks:=K})
   (λo0 o0 o0 o0 o0 E=>isinstance_outer<|Answers.of_false_none (d6 L) (dA Y) (nG Y) 0 0 _ _ _ _ _ E) ⟨rfl,f⟩
 |str x=>
  obtain⟨t,rfl⟩:=r;obtain rfl:=sj (show Ja Jd=Ja b from H);have L:T≠"str":=by rintro rfl;exact absurd Y<|by decide
  exact JA (isinstance_false_str (d6 L) (dA Y)<|wh Y)<|f _
 |int i=>
  obtain⟨t,rfl⟩:=r;replace H:=Option.some.inj (show Ja ([T].contains "int")=Ja b from H);simp only[KZ,Yj,Bool.or_false] at H;by_cases h:T="int"
  ·subst h;have:b=Jc:=by rw[<-H];decide
   subst this;exact JA (YO (dA Y)<|by rw[sub_int Y];rfl) ⟨typeIs_int _ _ _,f _⟩
  ·have:b=Jd:=by rw[<-H];simpa using λe=>h e.symm
   subst this;exact JA (isinstance_false_int (d6 h) (dA Y)<|by rw[sub_int Y];simp[h])<|f _
 |bool x=>
  change _=_ at r;subst r;replace H:=Option.some.inj (show Ja ([T].contains "bool"||[T].contains "int")=Ja b from H);simp only[KZ,Yj,Bool.or_false] at H;by_cases h:T="bool"\/T="int"
  ·have:b=Jc:=by rw[<-H];rcases h with rfl|rfl<;>decide
   subst this;exact JA (YO (Tx:="bool") (dA Y) (by rw[n7 Y];rcases h with rfl|rfl<;>rfl)) ⟨rfl,f _⟩
  ·have N:T≠"bool":=λe=>h<|.inl e;have B:T≠"int":=λe=>h<|.inr e;have:b=Jd:=by rw[<-H];simp[Ne.symm N,Ne.symm B]
   subst this;exact JA (isinstance_false_bool (d6 N) (dA Y)<|by rw[n7 Y];simp[N,B])<|f _
 |tup l=>
  obtain⟨a,k,w,rfl,o0,N,o0⟩:=r;replace H:=Option.some.inj (show Ja ([T].contains "tuple")=Ja b from H);simp only[KZ,Yj,Bool.or_false] at H;by_cases h:T="tuple"
  ·subst h;have:b=Jc:=by rw[<-H];decide
   subst this;exact JA (YO (Tx:="tuple") (dA Y)<|by rw[mh Y];rfl) ⟨⟨_,N,rfl⟩,f _⟩
  ·have:b=Jd:=by rw[<-H];simpa using λe=>h e.symm
   subst this;exact JA (isinstance_false_tuple (d6 h) (dA Y)<|by rw[mh Y];simp[h]) ⟨⟨_,N,rfl⟩,f _⟩
 |ref a=>
  change _=_ at r;subst r;replace H:isiO G [T] (σ a)=Ja b:=H
  induction M:σ a with
  |none=>rw[M] at H;exact onx H
  |some o=>
  rw[M] at H
  induction o with
  |list l=>
   replace H:=Option.some.inj (show Ja ([T].contains "list")=Ja b from H);simp only[KZ,Yj,Bool.or_false] at H;obtain⟨w,k,N,o0⟩:=m.list M;by_cases h:T="list"
   ·subst h;have:b=Jc:=by rw[<-H];decide
    subst this;exact JA (YO (Tx:="list") (dA Y)<|by rw[nU Y];rfl) ⟨⟨_,N,rfl⟩,f _⟩
   ·have:b=Jd:=by rw[<-H];simpa using λe=>h e.symm
    subst this;exact JA (isinstance_false_list (d6 h) (dA Y)<|by rw[nU Y];simp[h]) ⟨⟨_,N,rfl⟩,f _⟩
  |exc c d=>exact absurd M<|O a c rfl d
  |_=>exact onx H
 |scr l=>exact onx H
end
theorem mF(h:place n k=Ja j):seqIndex? k n=Ja j/\j<n:=by
 unfold place at h;unfold seqIndex?
 split at h
 ·rename_i i
  split at h
  ·rename_i N
   obtain rfl:=sj h;refine⟨?_,by exact(Wf i).mpr N⟩;simp only[show ¬k<0 by exact KF.mpr i,if_false];rw[Uh (by simp only[QL,Uj];exact⟨i,N⟩)]
  ·exact ns h
 ·rename_i i
  split at h
  ·rename_i N
   obtain rfl:=sj h;refine⟨?_,by exact(Wf N).mpr (zng i)⟩;simp only[show k<0 by exact Yl.mp i,if_true];rw[Uh (by simp only[QL,Uj];exact⟨N,zng i⟩)]
  ·exact ns h
theorem lc(h:place n k=Ja j): -(n:Int)<=k/\k<n:=by
 unfold place at h;by_cases i:0<=k
 ·rw[Uh i] at h;by_cases N:k<n
  ·exact⟨QN (Int.neg_nonpos_of_nonneg<|QU _) i,N⟩
  ·rw[Ug N] at h;exact ns h
 ·rw[Ug i] at h;by_cases N:0<=k+n
  ·exact⟨Int.add_nonneg_iff_neg_le.mp N,KB (Yl.mp i)<|QU _⟩
  ·rw[Ug N] at h;exact ns h
theorem mx{k:Int}(i:0<=k)(h:place n k=Ja j):j=k.toNat:=by
 unfold place at h;rw[Uh i] at h
 split at h
 ·obtain rfl:=sj h;rfl
 ·exact ns h
theorem rU(i:¬0<=k)(h:place n k=Ja j):j=(k+n).toNat:=by
 unfold place at h;rw[Ug i] at h
 split at h
 ·obtain rfl:=sj h;rfl
 ·exact ns h
section
variable{C:Cx}{A:Jj}{Er:Jf->Je->Prop}{σ:PH}{s:Je}{Q:Post}{n:Nat}{fr:List Js}
theorem lq(slice:Jl)(o i:Jf):∃ops,subscripted slice Jd o i=operate ops (getItem o i):=by
 induction slice using Expr.casesOn with
 |Slice l u st p=>induction st with
  |none=>exact⟨_,rfl⟩
  |some x=>exact⟨_,rfl⟩
 |_=>exact⟨_,rfl⟩
theorem jx{vs:Array Jf}{R:Jf->Je->Prop}(l:s.heap.IsList a vs)(hz:vs.size<=10000000)(H:place vs.size k=Ja j)(hx:vs[j]? =Ja x)(h:R x s):
  Jh (Mo C) A (getItem (.ref a)<|.int k t) R Er s:=by
 obtain⟨b,V⟩:=lc H;by_cases i:0<=k
 ·have e:=mx i H;subst e;exact wpAny_getItem_list l i (by exact zi1 hz V) hx h
 ·have e:=rU i H;subst e;exact wpAny_getItem_list_neg l (by exact Yl.mp i) b (by exact zi2 hz b) hx h
theorem wM(h:A.units+100<cLine)(m:Sim C σ s.heap)(e:σ a=Ja (.dict ks l))(r:VR C σ s.heap i w)(M:keyOf i=Ja k)(hx:klook ks l k=Ja x)
  (q:Q x σ):Jh (Mo C) A (PyProof.Rows.subscriptTail v c (.ref a) w) (VP C none1 σ s Q) Er s:=by
 obtain⟨P,D⟩:=m.dict e;obtain⟨b,rfl,R⟩:=lK M r
 rcases D.look (k:=k) with⟨z,o0⟩|⟨p,y,z1,z2,z3⟩
 ·exact sn<|hx.symm.trans z
 ·obtain rfl:=sj<|hx.symm.trans z1;obtain⟨o,d⟩:=lq c (.ref a)<|.ref b;exact PyProof.Rows.tail_any (T:="dict") D.of.typeIs slot_dict_getitem.lookup (wpAny_getItem_heap (iM h) R.is D.of z2<|VP.here m rfl ⟨rfl,rfl⟩ z3 q) d
theorem zH(m:Sim C σ s.heap)(r:VR C σ s.heap p v)(V:VR C σ s.heap i w)(e:psub σ p i=Ja x)(hz:∀k,plen σ p=Ja k->k<=10000000)
  (q:Q x σ):Jh (Mo C) A (PyProof.Rows.subscriptTail g c v w) (VP C none1 σ s Q) Er s:=by
 induction p using PV.casesOn with
 |ref a=>
  change _=_ at r;subst r;replace e:psubO i (σ a)=Ja x:=e
  induction M:σ a with
  |none=>rw[M] at e;exact onx e
  |some o=>
  rw[M] at e
  induction o with
  |list l=>
   replace e:psubL l i=Ja x:=e
   induction i using PV.casesOn with
   |int k=>
   replace e:((place l.length k).bind λj=>l[j]?)=Ja x:=e;obtain⟨t,rfl⟩:=V;obtain⟨J,X,N,Y⟩:=m.list M;have b:J.size=l.length:=by simpa using Y.length
   obtain⟨j,H,hx⟩:=Qn.mp e;obtain⟨S,L,R⟩:=Y.get j x hx;obtain⟨z,d⟩:=lq c (.ref a)<|.int k t;have h:=hz l.length (by show lenO (σ a)=_;rw[M];rfl);exact PyProof.Rows.tail_any (T:="list") ⟨_,N,rfl⟩ slot_list_getitem.lookup
    (jx ⟨_,N,rfl,X,rfl⟩ (by exact zle (QS b) h) (by rw[b];exact H) (by simpa using L)<|VP.here m rfl (Rest.refl s) R q) d
   |_=>exact onx e
  |_=>exact onx e
 |tup l=>
  induction i using PV.casesOn with
  |int k=>
   replace e:((place l.length k).bind λj=>l[j]?)=Ja x:=e;obtain⟨a,X,J,rfl,W,N,Y⟩:=r;obtain⟨t,rfl⟩:=V;have b:J.size=l.length:=by simpa using Y.length
   obtain⟨j,H,hx⟩:=Qn.mp e;obtain⟨S,L,R⟩:=Y.get j x hx;obtain⟨z,d⟩:=lq c (.ref a)<|.int k t;have h:=hz l.length rfl;obtain⟨K,E⟩:=lc H;exact PyProof.Rows.tail_any (T:="tuple") ⟨_,N,rfl⟩ F.slot_tuple_getitem.lookup
    (P.getItem_tuple N (by exact zi2 h K) (by exact zi1 h E) (by rw[b];exact(mF H).1) (by simpa using L)<|VP.here m rfl (Rest.refl s) R q) d
  |_=>first|exact bnx e|exact onx e|cases e
 |scr l=>
  induction i using PV.casesOn with
  |int k=>
   replace e:(((place l.length k).bind λj=>l[j]?).map PV.int)=Ja x:=e;obtain⟨a,o,X,J,rfl,N,Y,G,b,O⟩:=r;obtain⟨t,rfl⟩:=V;obtain⟨y,Z,rfl⟩:=Qu.mp e;obtain⟨j,H,hx⟩:=Qn.mp Z;obtain⟨u,D⟩:=O j y hx;obtain⟨z,d⟩:=lq c (.ref a)<|.int k t;have h:=hz l.length rfl;exact PyProof.Rows.tail_any (T:="list") ⟨_,m.base _ _ N,Y⟩ slot_list_getitem.lookup
    (jx ⟨_,m.base _ _ N,Y,X,G⟩ (by exact zle (QS b) h) (by rw[b];exact H) D<|VP.here m rfl (Rest.refl s) (ey _) q) d
  |_=>first|exact bnx e|exact onx e|cases e
 |_=>first|exact bnx e|exact onx e|cases e
theorem lR{vs:Array Jf}{R:Unit->Je->Prop}(T:s.heap.get? l=Ja (lstO vs X))(hz:vs.size<=10000000)(H:place vs.size k=Ja j)
  (h:R () {s with heap:=s.heap.update l (Obj.mapSeq (·.setIfInBounds j v))}):Jh (Mo C) A (setItem (.ref l) (.int k t) v) R Er s:=by
 have Y:s.TypeIs (.ref l) "list":=⟨_,T,rfl⟩
 obtain⟨N,E⟩:=lc H;obtain⟨d,S⟩:=mF H;have hx:vs[j]? =Ja vs[j]:=KK S;have V:Builtin.List.listFitsIndex k=Jc:=by
  unfold Builtin.List.listFitsIndex;simp only[QL,Uj];exact⟨zi2 hz N,zi1 hz E⟩
 unfold setItem
 try with_reducible refine YE ?_
 first|refine YA (YB ?_)|skip
 refine YA (wpAny_sequenceKey Y (by decide) ?_);refine YA (JD (name:=Qb "__setitem__") Y slot_list_setitem
  (YG slot_list_setitem Y entry_list_setitem ?_ (args_list_setitem _ _ _)))
 show Jh _ _ (Builtin.List.listSubscript? (.int k t)>>=_) _ _ s;refine YA<|wpAny_listSubscript_int V ?_;have F:Jh (Mo C) A.in1.in1 (setSeqItemAt l j v>>=λo0=>ret .none) (λf g=>∃w,f= .done (.ret w)/\Jh (Mo C) A (pure ()) R Er g) Er s:=
  YA (Y2 T rfl<|YB ⟨.none,rfl,YB h⟩)
 clear V
 induction k with
 |ofNat i=>
  have b:j=i:=mx (QU i) H;subst b;show Jh _ _ ((seqItemAt l j>>=λr=>pure (r.map (j,·)))>>=_) _ _ s;refine YA<|YA (wpAny_seqItemAt T rfl<|YB ?_);rw[hx];show Jh _ _ (setSeqItemAt l j v>>=_) _ _ s;refine YA<|wpAny_setSeqItemAt T rfl ?_
  first
   |exact YA<|YB (YB ⟨.none,rfl,YB h⟩)
   |exact YB ⟨.none,rfl,YB h⟩
 |negSucc i=>
  show Jh _ _ ((Builtin.List.listItems (.ref l)>>=λx=>pure ((seqIndex? (Int.negSucc i) x.size).bind λi=>x[i]?.map (i,·)))>>=_) _ _ s;refine YA<|YA ?_;show Jh _ _ (seqItems? (.ref l)>>=_) _ _ s;refine YA<|wpAny_seqItems T rfl (YB<|YB ?_);rw[d];simp only[Kw,hx,Wc];refine YA<|wpAny_setSeqItemAt T rfl ?_
  first
   |exact YA<|YB (YB ⟨.none,rfl,YB h⟩)
   |exact YB ⟨.none,rfl,YB h⟩
end
abbrev EOK(C:Cx)(A:Jj)(σ:PH)(s:Je)(t:Sem Jf)(Q:Post)(X:XPost):Prop:=Jh (Mo C) A t (VP C none1 σ s Q) (XP C none1 σ s X) s
abbrev EOKs(C:Cx)(A:Jj)(σ:PH)(s:Je)(t:Sem (List Jf))(Q:List PV->PH->Prop)(X:XPost):Prop:=Jh (Mo C) A t (VPs C none1 σ s Q) (XP C none1 σ s X) s
section
variable{C:Cx}{A:Jj}{σ:PH}{s:Je}{Q:Post}{X:XPost}
theorem EOK.then{R:Jf->Je->Prop}(h:EOK C A σ s t Q' X)
  (k:∀v W p σ1,VR C σ1 W.heap p v->Sim C σ1 W.heap->Step none1 σ s.heap σ1 W.heap->Rest s W->Q' p σ1->R v W):Jh (Mo C) A t R (XP C none1 σ s X) s:=
 VP.to h k λo0 o0 x=>x
theorem EOK.after{d:PH}{s₁:Je}(st:Step none1 σ s.heap d s₁.heap)(r:Rest s s₁)(h:EOK C A d s₁ t Q X):Jh (Mo C) A t (VP C none1 σ s Q) (XP C none1 σ s X) s₁:=
 YC h (λo0 o0 x=>VP.from st r x) λo0 o0 x=>XP.from st r x
end
section
variable{C:Cx}{G:Gx}{mg mb:Jq->Option Jf}{A:Jj}{env:Js}{ρ:Rho}{σ:PH}{s:Je}{Q:Post}{X:XPost}
noncomputable def dm:List Jl->Bool
 |[]=>Jc
 | .Starred .. ::_=>Jd
 |_::r=>dm r
theorem fJ(hy:∀z q,y≠ .Starred z q)(hr:dm r=Jc):dm (y::r)=Jc:=by
 induction y using Expr.casesOn with
 |Starred z q=>exact absurd rfl<|hy z q
 |_=>exact hr
theorem cq(h:∀x p,e≠ .Starred x p):JF (e::r) env=(Jd,Jx e env)::JF r env:=by
 rcases e with⟨⟩<;>first|rfl|exact absurd rfl<|h _ _
theorem i0:∀ {es:List Jl},dm es=Jc->(J1 pos (JF es env)).any (·.1)=Jd
 |[]=>λo0=>rfl
 |e::r=>λh=>by
  have n:∀x p,e≠ .Starred x p:=by rintro x p rfl;exact ft h
  have T:dm r=Jc:=by rcases e with⟨⟩<;>first|exact h|exact ft h
  rw[cq n];have:=i0 (pos:=pos) T;simp only[J1,Qo,Yn,Bool.false_or] at this ⊢;exact this
theorem de{R:Jf->Je->Prop}{Er:Jf->Je->Prop}(kp:Kp C f)(D:dm es=Jc)
  (h:Jh (Mo C) A (J9<|backTo pos (JF es env)) (λvs s₁=>(∀b o,C.B.get? b=Ja o->s₁.heap.get? b=Ja o)/\Jh (Mo C) A (call f<|first++vs) R Er s₁) Er s):
  Jh (Mo C) A (callWith pos f first (J1 pos<|starEach es env)<|backToKw pos (YH [] env)) R Er s:=by
 obtain⟨k,q,L⟩:=kp;refine W.callWith_of (P:=λh=>∀b o,C.B.get? b=Ja o->h.get? b=Ja o) ?_ (λh v=>⟨k,q,L.keeps v⟩) ?_
 ·rw[i0 D];rfl
 ·induction es using List.casesOn with
  |nil=>
   show Jh (Mo C) A (evalArgs f Jc [] []) _ _ s;unfold evalArgs;show Jh (Mo C) A (J9 []>>=_) _ _ s;refine YA (YC h (λvs g S=> ?_) λo0 o0 x=>x);exact YA<|YB (YE<|YA (YB<|YA (YB<|YB S)))
  |cons e r=>
   have n:∀x p,e≠ .Starred x p:=by rintro x p rfl;exact ft D
   rw[cq n] at h ⊢;exact Calls.evalArgs_plain h
end
noncomputable def BI.val:BI->Jf
 | .len=> .builtin "len"| .all=> .builtin "all"| .sum=> .builtin "sum"| .int=> .type "int"| .list=> .type "list"| .min=> .builtin "min"| .sorted=> .builtin "sorted"| .dict _=> .type "dict"
theorem BI.kp(C:Cx)(b:BI):Kp C b.val:=by
 rcases b with o0|o0|o0|o0|o0|o0|o0|⟨⟨⟩⟩<;>exact⟨.machine,.inr<|.inl rfl,W.Looks.of_pure rfl⟩
theorem BI.boot(b:BI):Y3 (Qb b.nm)=Ja b.val:=by
 rcases b with o0|o0|o0|o0|o0|o0|o0|⟨⟨⟩⟩<;>decide+kernel
theorem BI.mem(b:BI):b.nm∈bltNames:=by
 rcases b with o0|o0|o0|o0|o0|o0|o0|⟨⟨⟩⟩<;>decide
section
variable{C:Cx}{A:Jj}{Er:Jf->Je->Prop}{σ:PH}{s:Je}{Q:Post}
theorem VRs.one(r:VRs C σ h [p] vs):∃v,vs=[v]/\VR C σ h p v:=by
 obtain⟨v,q,rfl,N,rfl⟩:=r;exact⟨v,rfl,N⟩
theorem VRs.two(r:VRs C σ h [p,q] vs):X2 λv w=>A3 (vs=[v,w]) (VR C σ h p v) (VR C σ h q w):=by
 obtain⟨v,q,rfl,N,w,r,rfl,Y,rfl⟩:=r;exact⟨v,w,rfl,N,Y⟩
theorem AE{b:BI}{args:List PV}(d:HOK A s.heap)(U:b.quiet=Jc\/A.handled=Jb)(u:A.units+100<cLine)(m:Sim C σ s.heap)(r:VRs C σ s.heap args vs)(w:wbi b args σ Q)(W:s.heap.objs.size≠JE):
  Jh (Mo C) A (call b.val vs) (VP C none1 σ s Q) Er s:=by
 have q:b.quiet=Jd->A.handled=Jb:=λh=>U.resolve_left (by rw[h];exact QC);have t:∀ {K:PV->Prop} {f:Jf},on1 K args->(∀p v,K p->VR C σ s.heap p v->Jh (Mo C) A (call f [v]) (VP C none1 σ s Q) Er s)->Jh (Mo C) A (call f vs) (VP C none1 σ s Q) Er s:=λw k=>by
  obtain⟨p,rfl,w⟩:=wX w;obtain⟨v,rfl,S⟩:=r.one;exact k p v w S
 have E:∀ {K:List PV->Prop} {p:PV} {v:Jf} {f:Jf},onL σ K p->VR C σ s.heap p v->(∀a l,K l->σ a=Ja (.list l)->Jh (Mo C) A (call f [.ref a]) (VP C none1 σ s Q) Er s)->Jh (Mo C) A (call f [v]) (VP C none1 σ s Q) Er s:=λw S k=>by
  obtain⟨a,l,rfl,e,j⟩:=fw w;rw[show _=Value.ref a from S];exact k a l j e
 induction b with
 |len=>
  exact t w λp v w S=>by
   obtain⟨n,e,w⟩:=gE w;exact z0 m S e w.1 w.2
 |all=>
  exact t w λp v w S=>E w S λa l w e=>by
   obtain⟨bs,I,w⟩:=kK w;exact yM d m e I w
 |sum=>
  exact t w λp v w S=>E w S λa l w e=>by
   obtain⟨bs,I,w⟩:=kG w;exact z8 d m e I w
 |int=>
  exact t w λp v w S=>by
   obtain⟨x,rfl,w⟩:=lN w;rw[show v= .bool x from S];exact call_int_bool<|VP.here m rfl ⟨rfl,rfl⟩ (ey _) w
 |list=>
  exact t w λp v w S=>by
   rcases w with w|w
   ·obtain⟨a,L,l,rfl,e,j⟩:=iD w;rw[show v= .ref a from S];exact sN (q rfl) m e j.1 j.2
   rcases wD w with⟨l,rfl,w⟩|⟨a,l,rfl,e,B⟩
   ·obtain⟨a,k,vs,rfl,O,N,Y⟩:=S;exact ru (.inr rfl) m N Y w.1 w.2
   ·rw[show v= .ref a from S];obtain⟨vs,k,N,Y⟩:=m.list e;exact ru (.inl rfl) m N Y B.1 B.2
 |min=>
  exact t w λp v w S=>E w S λa l w e=>by
   obtain⟨is,i,w⟩:=kG w;exact zv (q rfl) m e i w.1 w.2
 |sorted=>
  exact t w λp v w S=>E w S λa l w e=>by
   obtain⟨is,i,w⟩:=kG w;exact sB m e i w.1 w.2
 |dict=>
  exact t w λp v w S=>by
   obtain⟨a,L,l,rfl,e,j⟩:=iD w;rw[show v= .ref a from S];exact vD m e j.1 j.2 W
end
section
set_option backward.match.sparseCases true
def Mv(F:Jg->Prop)(h h':Ji):Prop:=∀c o,¬F c->h.get? c=Ja o->h'.get? c=Ja o
def Fok(C:Cx)(σ:PH)(h:Ji)(F:Jg->Prop):Prop:=
 ∀c,F c->C.B.get? c=Jb/\((σ c=Jb/\∀v n,h.get? c≠Ja (tupO v n))\/σ c=Ja .hid)
section
variable{C:Cx}{F:Jg->Prop}{σ:PH}{h h':Ji}
theorem Mv.refl:Mv F h h:=λo0 o0 o0 e=>e
theorem Mv.mono{I:Jg->Prop}(x:Mv F h h')(k:∀c,F c->I c):Mv I h h':=λc o f e=>x c o (λq=>f (k c q)) e
mutual
theorem VR.mv(mv:Mv F h h')(fo:Fok C σ h F):∀ (p:PV) (v:Jf),VR C σ h p v->VR C σ h' p v
 | .none=>λo0 e=>e
 | .bool _=>λo0 e=>e
 | .int _=>λo0 e=>e
 | .str _=>λo0 e=>e
 | .ref _=>λo0 e=>e
 | .scr _=>λo0 e=>e
 | .tup l=>λv e=>by
  obtain⟨a,n,vs,T,es,w,V⟩:=e;refine⟨a,n,vs,T,es,mv a _ (λf=> ?_) w,VRs.mv mv fo l _ V⟩
  rcases (fo a f).2 with⟨o0,q⟩|q
  ·exact q vs n w
  ·exact ns<|es.symm.trans q
theorem VRs.mv(mv:Mv F h h')(fo:Fok C σ h F):∀ (l:List PV) (vs:List Jf),VRs C σ h l vs->VRs C σ h' l vs
 |[]=>λo0 e=>e
 |p::ps=>λvs e=>by
  obtain⟨v,r,T,w,X⟩:=e;exact⟨v,r,T,VR.mv mv fo p v w,VRs.mv mv fo ps r X⟩
end
theorem KeyAt.mv(mv:Mv F h h')(fo:Fok C σ h F)(x:KeyAt C σ h k a):KeyAt C σ h' k a:=by
 obtain⟨n,v,m,g,i⟩:=x;refine⟨n,v,m,mv a _ (λf=> ?_) g,i⟩
 rcases (fo a f).2 with⟨o0,q⟩|q
 ·exact q v m g
 ·exact ns<|n.symm.trans q
theorem OR.mv(mv:Mv F h h')(fo:Fok C σ h F):∀ (p:PO) (o:Jp),OR C σ h p o->OR C σ h' p o:=λp o r=>by
 induction p with
 |list l=>obtain⟨w,n,m,X⟩:=r;exact⟨w,n,m,VRs.mv mv fo _ _ X⟩
 |dict=>obtain⟨U,s,P,x,d,e,k,nd,a,v⟩:=r;exact⟨U,s,P,x,d,e,k,nd,λy W=>(a y W).mv mv fo,VRs.mv mv fo _ _ v⟩
 |fd=>obtain⟨U,s,e,k,v,z⟩:=r;exact⟨U,s,e,k,λi f p N Y=>(v i f p N Y).imp λu q=>⟨q.1,VR.mv mv fo _ _ q.2⟩,z⟩
 |_=>exact r
theorem Sim.mv(m:Sim C σ h)(mv:Mv F h h')(fo:Fok C σ h F)(U:∀c,F c->σ c=Ja .hid->∃a b,h'.get? c=Ja (tupO #[a,b] 0)):Sim C σ h' where
 base:=λb o e=>mv b o (λf=>by have:=(fo b f).1;exact sn<|e.symm.trans this)<|m.base b o e
 new:=m.new
 objs:=λa o e=>by
  obtain⟨W,N,p⟩:=m.objs a o e;by_cases f:F a
  ·rcases (fo a f).2 with⟨q,o0⟩|q
   ·exact ns<|q.symm.trans e
   ·obtain rfl:=sj<|q.symm.trans e;obtain⟨x,y,g⟩:=U a f q;exact⟨_,g,x,y,rfl⟩
  ·exact⟨W,mv a W f N,p.mv mv fo⟩
 rich:=m.rich
theorem Step.mv{S:Jg->Prop}{h₀:Ji}(st:Step S B h₀ σ h)(mv:Mv F h h')(W:∀c,F c->h₀.get? c=Jb):Step S B h₀ σ h' where
 keep:=λb o e s=>by
  obtain⟨G,i,g,l⟩:=st.keep b o e s;exact⟨G,i,mv b i (λf=>by exact ns<|(W b f).symm.trans e) g,l⟩
 grow:=st.grow
 fix:=st.fix
 live:=λb e=>by
  by_cases f:F b
  ·exact W b f
  ·refine st.live b ?_
   induction q:h.get? b with
   |none=>rfl
   |some o=>exact sn<|(mv b o f q).symm.trans e
theorem Step.mvS{S:Jg->Prop}{h₀:Ji}(st:Step S B h₀ σ h)(mv:Mv F h h')(W:∀c,F c->h₀.get? c=Jb\/(S c/\(∀o,h₀.get? c=Ja o->¬isSeq o)/\∃o,h'.get? c=Ja o)):Step S B h₀ σ h' where
 keep:=λb o e s=>by
  obtain⟨g,i,y,l⟩:=st.keep b o e s;by_cases f:F b
  ·rcases W b f with q|⟨N,Z,P,Q⟩
   ·exact ns<|q.symm.trans e
   ·exact⟨g,P,Q,λx=>absurd (x N)<|Z o e⟩
  ·exact⟨g,i,mv b i f y,l⟩
 grow:=st.grow
 fix:=st.fix
 live:=λb e=>by
  by_cases f:F b
  ·rcases W b f with q|⟨o0,o0,P,Q⟩
   ·exact q
   ·exact sn<|Q.symm.trans e
  ·refine st.live b ?_
   induction q:h.get? b with
   |none=>rfl
   |some o=>exact sn<|(mv b o f q).symm.trans e
theorem EnvR.mv{env:Js}(x:EnvR C env L σ h)(mv:Mv F h h')(fo:Fok C σ h F)(fl:¬F env.locals)(f:∀y c,env.cells.lookup y=Ja c->¬F c):EnvR C env L σ h' where
 fn:=x.fn
 glob:=x.glob
 blt:=x.blt
 ns:=by
  obtain⟨m,n,hv⟩:=x.ns;exact⟨m,Ns.like n λo e=>⟨o,mv _ o fl e,.refl o⟩,λy p T w=>by obtain⟨v,a,b⟩:=hv y p T w;exact⟨v,a,b.mv mv fo⟩⟩
 cell:=λy p T w=>by
  obtain⟨c,v,a,b,d⟩:=x.cell y p T w;exact⟨c,v,a,IsCell.like b λo e=>⟨o,mv _ o (f y c a) e,.refl o⟩,d.mv mv fo⟩
 newL:=x.newL
 newC:=λy c e=>by
  obtain⟨a,v,b⟩:=x.newC y c e;exact⟨a,v,IsCell.like b λo g=>⟨o,mv _ o (f y c e) g,.refl o⟩⟩
 baseL:=x.baseL
 baseC:=x.baseC
 apart:=x.apart
 hasC:=x.hasC
theorem Frs.mv(f:Frs C σ h l)(mv:Mv F h h')(W:∀env∈l,∀L,env.frame=Ja L->¬F L):Frs C σ h' l:=λenv O=>by
 obtain⟨k,L,o,s,n,e,w,X,u,V⟩:=f env O;exact⟨k,L,o,s,n,e,w,X,mv L o (W env O L e) u,V⟩
theorem AOK.mv(x:AOK C n A l σ h)(mv:Mv F h h')(f:∀env∈l,∀L,env.frame=Ja L->¬F L):AOK C n A l σ h':=
 ⟨x.depth,x.units,x.stack,x.frs.mv mv f,x.calm,x.hd⟩
theorem gF{o:Jp}(e:h.get? c=Ja o)(q:o.cls≠ .type "tuple"):∀vs n,h.get? c≠Ja (tupO vs n):=λvs n x=>by obtain rfl:=sj<|e.symm.trans x;exact q rfl
end
structure Src(C:Cx)(A:Jj)(t:Jl)(I:Jg)(fp:List Jg)(xs:List PV)(chk:PH->Prop)(St:Nat->PH->Ji->Prop):Prop where
 step:∀ {i:Nat} {S:Jg->Prop} {σ:PH} {h:Ji} {σ':PH} {h':Ji},St i σ h->Step S σ h σ' h'->(∀b∈fp,¬S b)->St i σ' h'
 mv:∀ {i:Nat} {F:Jg->Prop} {σ:PH} {h h':Ji},St i σ h->Mv F h h'->Fok C σ h F->(∀b∈fp,¬F b)->St i σ h'
 fok:∀ {i:Nat} {σ:PH} {h:Ji},St i σ h->Fok C σ h (· ∈fp)
 item:∀ {i:Nat} {x:PV} {σ:PH} {s:Je} {R:Option Jf->Je->Prop} {Er:Jf->Je->Prop},xs[i]? =Ja x->Sim C σ s.heap->chk σ->St i σ s.heap->
  (∀v s1,(∀ (K:Unit->Je->Prop) (Er':Jf->Je->Prop),(∀s2,VR C σ s2.heap x v->Sim C σ s2.heap->Mv (· ∈fp) s.heap s2.heap->St (i+1) σ s2.heap->Rest s s2->K () s2)->
   Jh (Mo C) A (letOwnedTupleGo t (.ref I) v) K Er' s1)->R (Ja v) s1)->Jh (Mo C) A (Ju (.ref I)) R Er s
 done:∀ {σ:PH} {s:Je} {R:Option Jf->Je->Prop} {Er:Jf->Je->Prop},HdR A σ->Sim C σ s.heap->chk σ->St xs.length σ s.heap->
  (∀s2,Sim C σ s2.heap->Mv (· ∈fp) s.heap s2.heap->Rest s s2->R Jb s2)->Jh (Mo C) A (Ju<|.ref I) R Er s
 self:∀ {i:Nat} {σ:PH} {s:Je} {R:Jf->Je->Prop} {Er:Jf->Je->Prop},St i σ s.heap->R (.ref I) s->Jh (Mo C) A (YT<|.ref I) R Er s
section
variable{C:Cx}{A:Jj}{σ:PH}{h h':Ji}
theorem fO{o:Jp}{s:Je}{K:Unit->Je->Prop}{Er:Jf->Je->Prop}(ho:s.heap.get? I=Ja o)(hc:o.cls= .type n)
  (hn:["enumerate","zip","dict_itemiterator","dict_reverseitemiterator","odict_iterator","itertools.zip_longest","itertools.pairwise"].contains n=Jd)(h:K () s):
  Jh (Mo C) A (letOwnedTupleGo t (.ref I) v) K Er s:=by
 have key:Jh (Mo C) A (do
   let(.ref r,.ref a):=(Value.ref I,v)|return
   let o<-load r
   match o.cls,o.data with
   | .type n,.fields vs=>
    if ["enumerate","zip","dict_itemiterator","dict_reverseitemiterator","odict_iterator","itertools.zip_longest","itertools.pairwise"].contains n&&vs[0]? ==Ja (Jy a) then
     rule "for.unpacks-the-owned-tuple"
     updateField r 0 .none
   |_,_=>pure ()) K Er s:=by
  induction v using Value.casesOn with
  |ref a=>
   refine YA<|wpAny_load ho ?_;rw[hc]
   induction hd:o.data with
   |fields vs=>
    dsimp only;rw[hn];simp only[Bool.false_and,Wy,if_false];exact YB h
   |_=>exact YB h
  |_=>exact YB h
 induction t using Expr.casesOn with
 |Tuple a b c=>exact key
 |List a b=>exact key
 |_=>exact YB h
theorem fh(b:C.B.get? I=Jb)(N:σ I=Jb){o:Jp}(e:h.get? I=Ja o)(q:o.cls≠ .type "tuple"):Fok C σ h (· ∈ [I]):=λc f=>by
 have f:=Qk.mp f;subst f;exact⟨b,.inl ⟨N,gF e q⟩⟩
theorem gW(k:Wl I h h'):Mv (· ∈ [I]) h h':=λc o f e=>k c o (λq=>f (Qk.mpr q)) e
theorem hU(N:σ I=Jb):∀c,c∈ [I]->σ c=Ja .hid->∃a b,h'.get? c=Ja (tupO #[a,b] 0):=λc f q=>by
 rw[Qk] at f;subst f;exact ns<|N.symm.trans q
theorem Src.list(t:Jl)(I a:Jg)(l:List PV):
  Src C A t I [I] l (λσ=>σ a=Ja (.list l)) (λi σ h=>σ I=Jb/\C.B.get? I=Jb/\h.IsListIter I a i) where
 step:=λz T S=>by
  obtain⟨N,b,o,p,J,O⟩:=z;obtain⟨G,W,U,V⟩:=T.keep _ o p N;have k:=V λx=>absurd x<|S _ (.head _);exact⟨G,b,W,U,k.1.trans J,k.2.2.1.trans O⟩
 mv:=λz mv q Q=>by obtain⟨N,b,o,p,J⟩:=z;exact⟨N,b,o,mv _ o (Q _<|.head _) p,J⟩
 fok:=λz=>by obtain⟨N,b,o,p,J,O⟩:=z;exact fh b N p<|by rw[J];simp
 item:=λ{i x σ s R E} hx m Z ⟨N,b,w⟩ e=>by
  obtain⟨D,n,g,X⟩:=m.list Z;obtain⟨v,e1,L⟩:=X.get i x hx;refine wpAny_pyNext_list_item w ⟨_,g,rfl,n,rfl⟩ (x:=v) (by simpa using e1) λh' H B=> ?_;obtain⟨P,f,j,y⟩:=id w;have q:=fh b N f (by rw[j];simp);have mv:Mv (· ∈ [I]) s.heap h':=gW B.extBut;refine e v _ λK r u=> ?_;obtain⟨o2,Y,w5,w6⟩:=id H;exact fO Y w5 (by decide)<|u _ (L.mv mv q) (m.mv mv q<|hU N) mv ⟨N,b,H⟩ ⟨rfl,rfl⟩
 done:=λ{σ s R E} d m Z ⟨N,b,w⟩ e=>by
  obtain⟨D,n,g,X⟩:=m.list Z;have M:D.size=l.length:=by simpa using X.length
  refine iV (d.ok m) w ⟨_,g,rfl,n,rfl⟩ (by simp[M]) λh' c=> ?_;obtain⟨P,f,j,y⟩:=w;exact e _ (m.mv (gW c) (fh b N f<|by rw[j];simp)<|hU N) (gW c) ⟨rfl,rfl⟩
 self:=λz e=>by obtain⟨o0,o0,w⟩:=z;exact wpAny_pyIter_listiter w e
theorem Src.tuple(t:Jl)(I a:Jg)(l:List PV):
  Src C A t I [I] l (λσ=>True) (λi σ h=>σ I=Jb/\C.B.get? I=Jb/\h.IsTupleIter I a i/\VR C σ h (.tup l) (.ref a)) where
 step:=λz M S=>by
  obtain⟨N,b,⟨o,p,J,O⟩,hv⟩:=z;obtain⟨G,W,U,V⟩:=M.keep _ o p N;have k:=V λx=>absurd x<|S _ (.head _);exact⟨G,b,⟨W,U,k.1.trans J,k.2.2.1.trans O⟩,hv.step M⟩
 mv:=λz mv f hf=>by obtain⟨N,b,⟨o,p,J⟩,hv⟩:=z;exact⟨N,b,⟨o,mv _ o (hf _<|.head _) p,J⟩,hv.mv mv f⟩
 fok:=λz=>by obtain⟨N,b,⟨o,p,J,O⟩,o0⟩:=z;exact fh b N p<|by rw[J];simp
 item:=λ{i x σ s R E} hx m Q ⟨N,b,w,hv⟩ e=>by
  have u:=hv;obtain⟨Y,n,D,T,es,g,X⟩:=u;cases T;obtain⟨v,T,L⟩:=X.get i x hx;refine wpAny_pyNext_tuple_item w ⟨_,g,rfl,n,rfl⟩ (x:=v) (by simpa using T) λh' H B=> ?_;obtain⟨P,Z,j,w3⟩:=id w;have f:=fh b N Z (by rw[j];simp);have mv:Mv (· ∈ [I]) s.heap h':=gW B.extBut;refine e v _ λK y hK=> ?_;obtain⟨o2,r,w5,w6⟩:=id H;exact fO r w5 (by decide)<|hK _ (L.mv mv f) (m.mv mv f<|hU N) mv ⟨N,b,H,hv.mv mv f⟩ ⟨rfl,rfl⟩
 done:=λ{σ s R E} d m Q ⟨N,b,w,hv⟩ e=>by
  obtain⟨Y,n,D,T,es,g,X⟩:=hv;cases T;have q:D.size=l.length:=by simpa using X.length
  refine ic (d.ok m) w ⟨_,g,rfl,n,rfl⟩ (by simp[q]) λh' c=> ?_;obtain⟨P,Z,j,w3⟩:=w;exact e _ (m.mv (gW c) (fh b N Z<|by rw[j];simp)<|hU N) (gW c) ⟨rfl,rfl⟩
 self:=λz e=>by obtain⟨o0,o0,w,o0⟩:=z;exact wpAny_pyIter_tupleiter w e
theorem Src.range(t:Jl)(I:Jg)(n:Nat):
  Src C A t I [I] ((Qc n).map λ(i:Nat)=> .int i) (λσ=>True) (λi σ h=>σ I=Jb/\C.B.get? I=Jb/\i<=n/\IsRangeIter h I i (n-i) 1) where
 step:=λz X S=>by
  obtain⟨N,b,T,p⟩:=z;obtain⟨P,o,k,y⟩:=X.keep _ _ p N;have a:=y λx=>absurd x<|S _ (.head _);rw[a.eq (by simp)] at k;exact⟨P,b,T,k⟩
 mv:=λz mv f j=>by obtain⟨N,b,T,p⟩:=z;exact⟨N,b,T,mv _ _ (j _<|.head _) p⟩
 fok:=λz=>by obtain⟨N,b,T,p⟩:=z;exact fh b N p<|by simp
 item:=λ{i x σ s R E} hx m Z ⟨N,b,T,w⟩ e=>by
  have V:i<n:=by
   rcases Nat.lt_or_ge i n with q|q
   ·exact q
   ·exact ns<|(KX<|by simp;exact q).symm.trans hx
  have ex:x= .int i:=by
   rw[Qw,Wu V] at hx;simpa using hx.symm
  subst ex;refine wpAny_pyNext_range_item w (by exact Int.sub_pos_of_lt<|QZ.mpr V) λh' l B=> ?_;have f:=fh b N w (by simp);have mv:Mv (· ∈ [I]) s.heap h':=gW B.extBut;refine e _ _ λK r H=> ?_;refine fO l rfl (by decide)<|H _ ⟨_,rfl⟩ (m.mv mv f<|hU N) mv ⟨N,b,V,?_⟩ ⟨rfl,rfl⟩;have:((n:Int)-(i:Int)-1)=(n:Int)-((i+1:Nat):Int):=by exact WV _ _ _
  rw[this] at l;exact l
 done:=λ{σ s R E} d m Z ⟨N,b,T,w⟩ e=>by
  refine lm (d.ok m) w (by simp) λh' c=> ?_;exact e _ (m.mv (gW c) (fh b N w<|by simp)<|hU N) (gW c) ⟨rfl,rfl⟩
 self:=λz e=>by obtain⟨o0,o0,o0,w⟩:=z;exact wpAny_pyIter_rangeiter w e
theorem lm0{c z a b d:Jg}(q:c=z):c∈ [z,a,b,d]:=q▸ .head _
theorem lm1{c z a b d:Jg}(q:c=a):c∈ [z,a,b,d]:=q▸ .tail _ (.head _)
theorem lm2{c z a b d:Jg}(q:c=b):c∈ [z,a,b,d]:=q▸ .tail _ (.tail _<|.head _)
theorem lm3{c z a b d:Jg}(q:c=d):c∈ [z,a,b,d]:=q▸ .tail _ (.tail _<|.tail _ (.head _))
theorem lm4{P:Jg->Prop}{z a b d:Jg}(hz:P z)(T:P a)(R:P b)(v:P d)(h:c∈ [z,a,b,d]):P c:=by
 rcases Qx.mp h with rfl|h
 ·exact hz
 rcases Qx.mp h with rfl|h
 ·exact T
 rcases Qx.mp h with rfl|h
 ·exact R
 rcases Qx.mp h with rfl|h
 ·exact v
 ·cases h
theorem xK{z I T S W H K:Jg}{s:Je}{Q:Fin->Je->Prop}{E:Jf->Je->Prop}(u:A.handled=Jb)(D:ZipApart z I T S W H K)
  (hz:IsZip s.heap z I T .none)(U:YX s.heap I (.ref S) (.ref W))(O:YX s.heap T a b)(Y:s.heap.IsListIter S H P)(h2:s.heap.IsListIter W K X)(R:s.heap.IsList H xs)(N:s.heap.IsList K ys)
  (d:xs[P]? =Jb\/ys[X]? =Jb)
  (hE:∀h' e,Mv (· ∈ [z,T,S,W]) s.heap h'->(∃x y,YX h' T x y)->(∃o,h'.get? e=Ja o/\o.cls= .type "StopIteration")->E (.ref e) {s with heap:=h'}):
  Jh (Mo C) A (Builtin.«zip.__next__» ⟨[.ref z],[]⟩) Q E s:=by
 have n:∀ (p:Ji) (e:Jg) (x y:Jf),IsZip p z I T .ellipsis->Mv (· ∈ [z,T,S,W]) s.heap p->YX p T x y->(∃o,p.get? e=Ja o/\o.cls= .type "StopIteration")->∀ (g:Je),g={s with heap:=p}->
   Jh (Mo C) A (setField (.ref z) 0 .none) (λo0 s3=>E (.ref e) s3) E g:=λp e x y z2 mv t z' g es=>by
  obtain⟨r,L,M⟩:=z';subst es;have v:e≠z:=λw=>by subst w;obtain rfl:=sj<|z2.symm.trans L;simp at M
  refine wpAny_setField_rec z2 (by simp) λG o0 B=>hE G e (λc o f w=>B.extBut _ _ (λq=>f<|lm0 q)<|mv c o f w) ⟨x,y,B.extBut _ _ D.TOz t⟩ ⟨r,B.extBut _ _ v L,M⟩
 show Jh _ _ (field (.ref z) 2>>=_) _ _ _;refine YA<|YD hz rfl (x:= .bool Jd) rfl ?_;show Jh _ _ (field (.ref z) 3>>=_) _ _ _;refine YA<|YD hz rfl (x:= .ref I) rfl ?_;refine YA<|wpAny_seqItems U rfl ?_;show Jh _ _ (Builtin.SmallTypes.ownedTupleIsFree (.ref z)>>=_) _ _ _;refine YA ?_;unfold Builtin.SmallTypes.ownedTupleIsFree;refine YA<|YD hz rfl (x:= .none) rfl (YB ?_);refine wy rfl<|YA (J3<|YA (YD hz rfl (x:= .ref T) rfl<|YA (wpAny_setField_rec hz (by simp) λV z1 i=> ?_)));have z1:IsZip V z I T .ellipsis:=z1;have m:Mv (· ∈ [z,T,S,W]) s.heap V:=λc o f w=>i.extBut _ _ (λq=>f<|lm0 q) w;have J:YX V T a b:=i.extBut _ _ D.TOz O;refine YA ?_;refine YA<|YA (wpAny_onRaise ?_)
 induction hx:xs[P]? with
 |none=>
  refine YA (wpAny_nextOf_list_end u (Y.extBut i.extBut D.i1z) (R.extBut i.extBut D.l1z) hx λp e l j=> ?_);exact n p e a b (l _ _ D.i1z.symm z1) (λc o f w=>l _ _ (λq=>f<|lm2 q)<|m c o f w) (l _ _ D.TOi1 J) j _ rfl
 |some x=>
  have hy:ys[X]? =Jb:=d.resolve_left (by rw[hx];exact λq=>by exact sn q);refine YA (wpAny_nextOf_list_item (Y.extBut i.extBut D.i1z) (R.extBut i.extBut D.l1z) hx λp o0 l=>YB ?_);have t:YX p T a b:=l.extBut _ _ D.TOi1 J;refine YA<|wpAny_seqItems t rfl (YA<|wpAny_updateSeq_pair t λG t3 B=>YA<|wpAny_letGo (YB ?_));refine YA<|YA (wpAny_onRaise ?_);show Jh _ _ (Builtin.SmallTypes.nextOf (.ref W)>>=_) _ _ _;refine YA (wpAny_nextOf_list_end u (((h2.extBut i.extBut D.i2z).extBut l.extBut D.i12.symm).extBut B.extBut D.TOi2.symm) (((N.extBut i.extBut D.l2z).extBut l.extBut D.l2i1).extBut B.extBut D.l2TO) hy λZ e k j=> ?_);exact n Z e x b (k _ _ D.i2z.symm<|B.extBut _ _ D.TOz.symm (l.extBut _ _ D.i1z.symm z1)) (λc o f w=>k _ _ (λq=>f<|lm3 q)<|B.extBut _ _ (λq=>f<|lm1 q) (l.extBut _ _ (λq=>f<|lm2 q)<|m c o f w)) (k _ _ D.TOi2 t3) j _ rfl
theorem vL{z I O i W p K:Jg}{s:Je}{Q:Option Jf->Je->Prop}{E:Jf->Je->Prop}(f:A.handled=Jb)(D:ZipApart z I O i W p K)
  (hz:IsZip s.heap z I O .none)(t:YX s.heap I (.ref i) (.ref W))(L:YX s.heap O a b)(N:s.heap.IsListIter i p k)(B:s.heap.IsListIter W K X)(l:s.heap.IsList p xs)(U:s.heap.IsList K ys)
  (n:xs[k]? =Jb\/ys[X]? =Jb)(j:∀h',Mv (· ∈ [z,O,i,W]) s.heap h'->(∃x y,YX h' O x y)->Q Jb {s with heap:=h'}):Jh (Mo C) A (Ju<|.ref z) Q E s:=by
 have Y:s.TypeIs (.ref z) "zip":=⟨_,hz,rfl⟩
 unfold Ju;refine YA (JN (JD (name:=Qb "__next__") Y F.slot_zip_next
  (YG F.slot_zip_next Y F.entry_zip_next (xK f D hz t L N B l U n λh' e q d V=> ?_) (F.args_zip_next_1 _))))
 obtain⟨o,w,c⟩:=V;exact YA<|wpAny_isInstance (T:="StopIteration") (b:=Jc) ⟨o,w,c⟩ J4 (YB<|j _ q d)
structure ZipAt(C:Cx)(z TI TO i1 i2 l1 l2:Jg)(i:Nat)(σ:PH)(h:Ji):Prop where
 ap:ZipApart z TI TO i1 i2 l1 l2
 nz:σ z=Jb
 n1:σ i1=Jb
 n2:σ i2=Jb
 nTI:σ TI=Jb
 nTO:σ TO=Ja .hid
 bz:C.B.get? z=Jb
 b1:C.B.get? i1=Jb
 b2:C.B.get? i2=Jb
 bO:C.B.get? TO=Jb
 isZ:IsZip h z TI TO .none
 isTI:YX h TI (.ref i1) (.ref i2)
 it1:h.IsListIter i1 l1 i
 it2:h.IsListIter i2 l2 i
theorem ZipAt.fok{z I T w W l K:Jg}(x:ZipAt C z I T w W l K i σ h):Fok C σ h (· ∈ [z,T,w,W]):=λc Z=>by
 obtain⟨o,p,e,o0⟩:=x.it1;obtain⟨R,f,m,o0⟩:=x.it2;exact lm4 (P:=λc=>C.B.get? c=Jb/\((σ c=Jb/\∀v n,h.get? c≠Ja (tupO v n))\/σ c=Ja .hid)) ⟨x.bz,.inl ⟨x.nz,gF x.isZ<|by simp⟩⟩ ⟨x.bO,.inr x.nTO⟩ ⟨x.b1,.inl ⟨x.n1,gF p<|by rw[e];simp⟩⟩ ⟨x.b2,.inl ⟨x.n2,gF f<|by rw[m];simp⟩⟩ Z
theorem wl{l m:List PV}{i:Nat}{x:PV}(h:((l.zip m).map λp=>PV.tup [p.1,p.2])[i]? =Ja x):X2 λp q=>A3 (l[i]? =Ja p) (m[i]? =Ja q) (x= .tup [p,q]):=by
 rw[Qw] at h;obtain⟨⟨p,q⟩,N,rfl⟩:=Qu.mp h;obtain⟨Y,J⟩:=WR.mp N;exact⟨p,q,Y,J,rfl⟩
theorem Src.zip(U:A.handled=Jb)(N:List Jl)(tk:Nat)(pos:Y8)(z B O j W I J:Jg)(l m:List PV):
  Src C A (.Tuple N tk pos) z [z,O,j,W] ((l.zip m).map λp=> .tup [p.1,p.2]) (λσ=>σ I=Ja (.list l)/\σ J=Ja (.list m)) (λi σ h=>ZipAt C z B O j W I J i σ h) where
 step:=λ{i S σ h Y h'} x t hS=>by
  have kp:∀c o,h.get? c=Ja o->σ c=Jb->¬S c\/isSeq o->(∀es n,o.data≠ .dict es n)->Y c=Jb/\h'.get? c=Ja o:=λc o e n ns nd=>by
   obtain⟨k1,o',k2,k3⟩:=t.keep c o e n;rw[(k3 λq=>ns.resolve_left λw=>w q).eq nd] at k2;exact⟨k1,k2⟩
  obtain⟨v,T,c1,d1⟩:=x.it1;obtain⟨u,g,c2,d2⟩:=x.it2;have qz:=kp z _ x.isZ x.nz (.inl<|hS z (lm0 rfl)) (by simp);have qt:=kp B _ x.isTI x.nTI (.inr ⟨_,_,rfl⟩) (by simp);have q1:=kp j _ T x.n1 (.inl<|hS j (lm2 rfl)) (by rw[d1];simp);have q2:=kp W _ g x.n2 (.inl<|hS W (lm3 rfl)) (by rw[d2];simp);exact⟨x.ap,qz.1,q1.1,q2.1,qt.1,t.fix _ _ x.nTO rfl,x.bz,x.b1,x.b2,x.bO,qz.2,qt.2,⟨v,q1.2,c1,d1⟩,⟨u,q2.2,c2,d2⟩⟩
 mv:=λ{i F σ h h'} x mv fo hf=>by
  have aa:¬F B:=λq=>by
   rcases (fo B q).2 with⟨o0,w⟩|w
   ·exact w _ _ x.isTI
   ·exact ns<|x.nTI.symm.trans w
  obtain⟨v,T,c1⟩:=x.it1;obtain⟨u,g,c2⟩:=x.it2;exact⟨x.ap,x.nz,x.n1,x.n2,x.nTI,x.nTO,x.bz,x.b1,x.b2,x.bO,mv _ _ (hf z<|lm0 rfl) x.isZ,mv _ _ aa x.isTI,⟨v,mv _ _ (hf j<|lm2 rfl) T,c1⟩,⟨u,mv _ _ (hf W<|lm3 rfl) g,c2⟩⟩
 fok:=λx=>x.fok
 item:=λ{i x σ s R Er} hx k Z t X=>by
  obtain⟨p,q,hp,hq,rfl⟩:=wl hx;obtain⟨H,n1,g1,g2⟩:=k.list Z.1;obtain⟨Q,E,g3,d⟩:=k.list Z.2;obtain⟨v1,T,r1⟩:=g2.get i p hp;obtain⟨r,g,r2⟩:=d.get i q hq;obtain⟨ob,L,a0,b0,rfl⟩:=k.objs O _ t.nTO;refine wpAny_pyNext_zip_item t.ap t.isZ t.isTI L t.it1 t.it2 ⟨_,g1,rfl,n1,rfl⟩ ⟨_,g3,rfl,E,rfl⟩ (x:=v1) (y:=r) (by simpa using T) (by simpa using g) λh' y1 y2 y3 y4 y5 y6 y7=> ?_;refine X _ _ λK ab hK=> ?_;refine wpAny_letOwnedTupleGo_zip y1 λV z2 G=> ?_;have D:=t.ap;have M:s.heap.objs.size≠z:=KL<|QH t.isZ;have mv:Mv (· ∈ [z,O,j,W]) s.heap V:=λc o f w=>G.extBut _ _ (λq=>f<|lm0 q)<|y7 c o (λq=>f<|lm0 q) (λq=>f<|lm1 q) (λq=>f<|lm2 q) (λq=>f<|lm3 q) w;have m2:Sim C σ V:=k.mv mv t.fok λc Z=>lm4 (P:=λc=>σ c=Ja .hid->∃a b,V.get? c=Ja (tupO #[a,b] 0)) (λU=>ns<|t.nz.symm.trans U) (λo0=>⟨_,_,G.extBut _ _ D.TOz y2⟩) (λU=>ns<|t.n1.symm.trans U) (λU=>ns<|t.n2.symm.trans U) Z;obtain⟨v,f1,f2⟩:=y3;obtain⟨u,f3,f4⟩:=y4;refine hK _ ⟨s.heap.objs.size,0,#[v1,r],rfl,k.fresh<|QA _,G.extBut _ _ M y5,v1,[r],rfl,r1.mv mv t.fok,r,[],rfl,r2.mv mv t.fok,rfl⟩ m2 mv
   ⟨D,t.nz,t.n1,t.n2,t.nTI,t.nTO,t.bz,t.b1,t.b2,t.bO,z2,G.extBut _ _ D.TIz<|y7 _ _ D.TIz D.TITO D.TIi1 D.TIi2 t.isTI,⟨v,G.extBut _ _ D.i1z f1,f2⟩,⟨u,G.extBut _ _ D.i2z f3,f4⟩⟩ ⟨rfl,rfl⟩
 done:=λ{σ s R Er} _ k Z t X=>by
  obtain⟨H,n1,g1,g2⟩:=k.list Z.1;obtain⟨Q,E,g3,d⟩:=k.list Z.2;obtain⟨ob,L,a0,b0,rfl⟩:=k.objs O _ t.nTO;have I:H.size=l.length:=g2.length;have J:Q.size=m.length:=d.length;refine vL U t.ap t.isZ t.isTI L t.it1 t.it2 ⟨_,g1,rfl,n1,rfl⟩ ⟨_,g3,rfl,E,rfl⟩ ?_ λh' mv tp=> ?_
  ·simp only[Qd,List.length_zip]
   rcases Nat.le_total l.length m.length with q|q
   ·exact .inl<|Wk (by exact Nat.le_min.mpr ⟨QS I,zle (QS I) q⟩)
   ·exact .inr<|Wk (by exact Nat.le_min.mpr ⟨zle (QS J) q,QS J⟩)
  ·exact X _ (k.mv mv t.fok λc Z=>lm4 (P:=λc=>σ c=Ja .hid->∃a b,h'.get? c=Ja (tupO #[a,b] 0)) (λU=>ns<|t.nz.symm.trans U) (λo0=>tp) (λU=>ns<|t.n1.symm.trans U) (λU=>ns<|t.n2.symm.trans U) Z) mv ⟨rfl,rfl⟩
 self:=λt X=>wpAny_pyIter_zip t.isZ X
def tU(C:Cx)(A:Jj)(k:IK)(v:List Jf)(R Er:Jf->Je->Prop)(s:Je):Prop:=
 match k with
 | .val=>Jh (Mo C) A (YT<|v.headD .none) R Er s
 | .range=>Jh (Mo C) A (call (.type "range") v) (λx W=>Jh (Mo C) A (YT x) R Er W) Er s
 | .zip=>Jh (Mo C) A (call (.type "zip") v) (λx W=>Jh (Mo C) A (YT x) R Er W) Er s
def pW(t:Jl):Prop:=X3 λe k p=>t= .Tuple e k p
def mG(C:Cx)(k:IK):Prop:=∀ (A:Jj) (t:Jl) (w:List PV) (v:List Jf) (σ:PH) (s:Je) (K:List PV->(PH->Prop)->PH->Prop) (R E:Jf->Je->Prop),
 (k.isZ=Jc->A.handled=Jb)->(k= .zip->pW t)->VRs C σ s.heap w v->Sim C σ s.heap->src k w σ (λx c=>x.length<=lim/\whid k σ λm=>K x c m)->
 (∀x c I f S m W,Src C A t I f x c S->S 0 m W.heap->Sim C m W.heap->Step none1 σ s.heap m W.heap->Rest s W->(∀b∈f,s.heap.get? b=Jb/\b<W.heap.objs.size)->x.length<=lim->K x c m->R (.ref I) W)->
 tU C A k v R E s
theorem gL(h:Ji)(e:h.objs.size<=a):h.get? a=Jb:=by
 induction q:h.get? a with
 |none=>rfl
 |some o=>exact absurd (QH q)<|Kd.mpr e
theorem wV{K:List PV->(PH->Prop)->Prop}(s:src .val vs σ K):(X2 λa l=>A3 (vs=[.ref a]) (σ a=Ja (.list l)) (K l λσ'=>σ' a=Ja (.list l)))\/(∃l,vs=[.tup l]/\K l λo0=>True):=by
 rcases vs with o0|⟨p,o0|⟨o0,o0⟩⟩
 ·exact s.elim
 ·rcases p with o0|o0|o0|o0|l|a|o0<;>first|exact s.elim|exact .inr ⟨l,rfl,s⟩|skip
  obtain⟨o0,l,e,T,w⟩:=fw (show onL σ (λl=>K l λσ'=>σ' a=Ja (.list l)) (.ref a) from s);cases e;exact .inl ⟨a,l,rfl,T,w⟩
 ·rcases p with⟨⟩<;>exact s.elim
theorem mK{h:Ji}{i:Ji}(n:i.objs.size<=h.objs.size)(R:b∈ [h.objs.size]):i.get? b=Jb/\b<(h.push o).objs.size:=by
 rw[Qk] at R;subst R;exact⟨gL _ n,by rw[Kh];exact QW _⟩
theorem vy:mG C .val:=by
 intro A t J H σ s K R E U _ hv m G X;show Jh (Mo C) A (YT<|H.headD .none) R E s
 rcases wV G with⟨a,l,rfl,e,w⟩|⟨l,rfl,w⟩
 ·obtain⟨v,rfl,d⟩:=hv.one;rw[show v= .ref a from d];obtain⟨J,n,g,c⟩:=m.list e;refine wpAny_pyIter_list ⟨_,g,rfl,n,rfl⟩ ?_;exact X _ _ s.heap.objs.size _ _ σ _ (Src.list t _ a l) ⟨m.fresh<|QA _,m.freshB<|QA _,⟨_,QG _ rfl,rfl,rfl⟩⟩ (m.push _) (.push _ _ _ _) ⟨rfl,rfl⟩ (λb o=>mK (QA _) o) w.1 w.2
 ·obtain⟨v,rfl,d⟩:=hv.one;have hv:=d;obtain⟨a,n,J,rfl,I,g,c⟩:=d;refine wpAny_pyIter_tuple ⟨_,g,rfl,n,rfl⟩ ?_;exact X _ _ s.heap.objs.size _ _ σ _ (Src.tuple t _ a l) ⟨m.fresh<|QA _,m.freshB<|QA _,⟨_,QG _ rfl,rfl,rfl⟩,hv.step<|.push none1 _ _ _⟩ (m.push _) (.push _ _ _ _) ⟨rfl,rfl⟩ (λb o=>mK (QA _) o) w.1 w.2
theorem qD:mG C .range:=by
 intro A t w a σ s K R r U _ hv m E X;show Jh (Mo C) A (call (.type "range") a) (λx W=>Jh (Mo C) A (YT x) R r W) r s
 match w,E with
 |[p],E=>
  obtain⟨n,rfl,g,l,P⟩:=du (show onInt (λn=> -1000000<n/\((Qc n.toNat).map λ(i:Nat)=>PV.int i).length<=lim/\K ((Qc n.toNat).map λ(i:Nat)=>PV.int i) (λo0=>True) σ) p from E);obtain⟨v,rfl,tk,rfl⟩:=hv.one;have T:n<=1000000:=by
   simp only[Qd,Qt,lim] at l;exact Int.toNat_le.mp l
  have z:Builtin.Range.rangeSize 0 n 1=(n.toNat:Int):=by rw[rangeSize_one 0 n];exact zrs n
  refine call_range_1 ?_;refine wpAny_pyIter_range (IsRange.new ..) (small_one (by decide) (by decide) (by exact QN (by decide)<|Yd g)<|by exact Int.lt_of_le_of_lt T<|by decide) ?_;rw[z];have c:=m.push {cls:= .type "range",data:= .fields #[.int 0 s.toks,.int n tk,.int 1 (s.toks+1)]};refine X _ _ _ _ _ σ _ (Src.range t _ n.toNat) ⟨c.fresh<|QA _,c.freshB<|QA _,QY _,?_⟩ (c.push _) ((Step.push _ _ _ _).trans (.push _ _ _ _)) ⟨rfl,rfl⟩ (λb H=>mK (by rw[Kh];exact WG _) H) l P;have e:=QG (s.heap.push {cls:= .type "range",data:= .fields #[.int 0 s.toks,.int n tk,.int 1 (s.toks+1)]}) (o:={cls:= .type "range_iterator",data:= .fields #[Jy 0,Jy n.toNat,Jy 1]}) rfl
  simpa using e
theorem wC{K:List PV->(PH->Prop)->Prop}(s:src .zip vs σ K):X4 λa b l m=>A4 (vs=[.ref a,.ref b]) (σ a=Ja (.list l)) (σ b=Ja (.list m)) (K ((l.zip m).map λp=> .tup [p.1,p.2]) λσ'=>σ' a=Ja (.list l)/\σ' b=Ja (.list m)):=by
 rcases vs with o0|⟨p,o0|⟨q,o0|⟨o0,o0⟩⟩⟩
 ·exact s.elim
 ·rcases p with⟨⟩<;>exact s.elim
 ·rcases p with o0|o0|o0|o0|o0|a|o0<;>first|exact s.elim|skip
  rcases q with o0|o0|o0|o0|o0|b|o0<;>first|exact s.elim|skip
  obtain⟨o0,l,e,T,w⟩:=fw (show onL σ (λl=>onL σ (λm=>K ((l.zip m).map λp=> .tup [p.1,p.2]) λσ'=>σ' a=Ja (.list l)/\σ' b=Ja (.list m))<|.ref b) (.ref a) from s);cases e;obtain⟨o0,m,e,j,w⟩:=fw w;cases e;exact⟨a,b,l,m,rfl,T,j,w⟩
 ·rcases p with⟨⟩<;>first|exact s.elim|(rcases q with⟨⟩<;>exact s.elim)
theorem uo(n a b:Nat)(T:a<n)(R:b<n):ZipApart (n+4) (n+2) (n+3) n (n+1) a b:=by
 constructor<;>(show(_:Nat)≠(_:Nat);first|exact KL (Yq _ T)|exact Kn (Yq _ T)|exact Kn (Yq _ R)|exact Kn T|exact Kn R|exact KL T|exact KL R|exact KL (Yq _ R)|exact Kn (Nat.lt_add_of_pos_right<|by decide)|exact KL (Nat.lt_add_of_pos_right<|by decide)|exact λq=>absurd (Nat.add_left_cancel q)<|by decide)
theorem uV:mG C .zip:=by
 intro A t vs v σ s K R W U L hv m hs J;show Jh (Mo C) A (call (.type "zip") v) (λx s1=>Jh (Mo C) A (YT x) R W s1) W s;obtain⟨N,tk,p,rfl⟩:=L rfl;obtain⟨a,b,l,k,rfl,e1,T,w⟩:=wC hs;obtain⟨O,v2,rfl,u,z⟩:=hv.two;rw[show O= .ref a from u,show v2= .ref b from z];obtain⟨aa,Q,g,g2⟩:=m.list e1;obtain⟨G,I,H,g4⟩:=m.list T;have la:=QH g;have y:=QH H;refine call_zip_2 ⟨_,g,rfl,Q,rfl⟩ ⟨_,H,rfl,I,rfl⟩ λh' z1 z2 D V d P M=> ?_;refine wpAny_pyIter_zip z1 ?_;have r:∀c,s.heap.objs.size<=c->σ c=Jb:=λc q=>m.fresh q;have f:∀c,s.heap.objs.size<=c->C.B.get? c=Jb:=λc q=>m.freshB q;have X:Step none1 σ s.heap (σ.set (s.heap.objs.size+3) .hid) h':=(Step.more M).add .hid (gL _<|QV _ _) (r _<|QV _ _);have i:Sim C (σ.set (s.heap.objs.size+3) .hid) h':=m.add X (λx S e=>by obtain⟨o1,Y,o0⟩:=m.objs x S e;exact(M _ _ Y).trans Y.symm) (λb o e=>M b o<|m.base b o e) D (f _<|QV _ _) ⟨_,_,rfl⟩ trivial;have n:∀c:Nat,c≠3->(σ.set (s.heap.objs.size+3) .hid) (s.heap.objs.size+c)=Jb:=λc q=>by
  rw[PH.set_ne _ _ λw=>q (Nat.add_left_cancel w)];exact r _<|QV _ _
 refine J _ _ _ _ _ _ _ (Src.zip (U rfl) N tk p (s.heap.objs.size+4) (s.heap.objs.size+2) (s.heap.objs.size+3) s.heap.objs.size (s.heap.objs.size+1) a b l k)
  ⟨uo _ _ _ la y,n 4<|by decide,(by have:=n 0 (by decide);simpa using this),n 1<|by decide,n 2<|by decide,PH.set_same _ _ _,f _<|QV _ _,f _<|QA _,f _<|QV _ _,f _<|QV _ _,z1,z2,V,d⟩ i X ⟨rfl,rfl⟩ (λc Z=> ?_) w.1 (w.2 _<|r _ (QV _ _))
 have E:∃k:Nat,k<5/\c=s.heap.objs.size+k:=by
  simp only[Qx,Ki,or_false] at Z
  rcases Z with rfl|rfl|rfl|rfl
  ·exact⟨4,by decide,rfl⟩
  ·exact⟨3,by decide,rfl⟩
  ·exact⟨0,by decide,rfl⟩
  ·exact⟨1,by decide,rfl⟩
 obtain⟨j,B,rfl⟩:=E;exact⟨gL _<|QV _ _,by show _<h'.objs.size;rw[P];exact Nat.add_lt_add_left B _⟩
end
end
theorem Rho.get_put:∀ {ρ:Rho} {y:String} {q:PV},(ρ.put x v).get y=Ja q->(y=x/\q=v)\/(y≠x/\ρ.get y=Ja q):=λ{ρ} y q=>by
 induction ρ with
 |nil=>exact λh=>ns h
 |cons p r i=>
  obtain⟨z,o⟩:=p;intro h;rw[Rho.put_c] at h;rw[Rho.get_c];by_cases T:z=x
  ·rw[Uh T,Rho.get_c] at h;by_cases W:z=y
   ·rw[Uh W] at h;exact .inl ⟨W.symm.trans T,(sj h).symm⟩
   ·rw[Ug W] at h;rw[Ug W];exact .inr ⟨λe=>W<|T.trans e.symm,h⟩
  ·rw[Ug T,Rho.get_c] at h;by_cases W:z=y
   ·rw[Uh W] at h ⊢;exact .inr ⟨λe=>T<|W.trans e,h⟩
   ·rw[Ug W] at h ⊢;exact i h
theorem Rho.get_put_ne:∀ {ρ:Rho} {y:String},y≠x->(ρ.put x v).get y=ρ.get y:=λ{ρ} y h=>by
 induction ρ with
 |nil=>rfl
 |cons p r i=>
  obtain⟨z,o⟩:=p;rw[Rho.put_c,Rho.get_c];by_cases T:z=x
  ·rw[Uh T,Rho.get_c,Ug λe=>h<|e.symm.trans T,Ug λe=>h (e.symm.trans T)]
  ·rw[Ug T,Rho.get_c,i]
theorem Rho.get_puts_ne:∀ {xs:List String} {vs:List PV} {ρ:Rho} {y:String},y∉xs->(ρ.puts xs vs).get y=ρ.get y
 |[],vs=>λh=>rfl
 |x::xs,[]=>λh=>rfl
 |x::xs,v::vs=>λh=>by
  show(Rho.puts (Rho.put _ x v) xs vs).get _=_;rw[Rho.get_puts_ne (λe=>h<|Kl _ e),Rho.get_put_ne (by rintro rfl;exact h Kq)]
theorem jR{tg:Tg}{ρ:Rho}(h:(blank tg ρ).get y=Ja q):y≠".0"/\y∉tg.names/\ρ.get y=Ja q:=by
 have h:(if ".0"=y then Jb else Rho.get ((tg.names.map λx=>(x,Jb))++ρ) y)=Ja q:=h;by_cases i:".0"=y
 ·exact ns<|(Uh i).symm.trans h
 rw[Ug i] at h;refine⟨λe=>i e.symm,?_⟩;generalize tg.names=l at h
 induction l with
 |nil=>exact⟨by simp,h⟩
 |cons x r W=>
  have h:(if x=y then Jb else Rho.get (r.map (λx=>(x,Jb))++ρ) y)=Ja q:=h;by_cases hx:x=y
  ·exact ns<|(Uh hx).symm.trans h
  ·rw[Ug hx] at h;obtain⟨a,b⟩:=W h;exact⟨by simp only[Qx,not_or];exact⟨λe=>hx e.symm,a⟩,b⟩
set_option tactic.hygienic true in
theorem sv{ρ ρ':Rho}(h:bindC tg v ρ=Ja ρ')(e:(blank tg ρ).get y=Ja q):ρ'.get y=Ja q:=by
 obtain⟨o0,n,o0⟩:=jR e
 induction tg with
 |name x=>
  obtain rfl:=sj (show Ja ((blank (.name x) ρ).put x v)=Ja ρ' from h);exact(Rho.get_put_ne λq=>n<|Qk.mpr q).trans e
 |tup P=>
  induction v using PV.casesOn with
  |tup w=>
   have h:(if w.length=P.length then Ja ((blank (.tup P) ρ).puts P w) else Jb)=Ja ρ':=h;by_cases l:w.length=P.length
   ·obtain rfl:=sj<|(Uh l).symm.trans h;exact(Rho.get_puts_ne n).trans e
   ·exact ns<|(Ug l).symm.trans h
  |_=>exact ns h
section
variable{C:Cx}{A:Jj}{Er:Jf->Je->Prop}{env:Js}{ρ:Rho}{σ:PH}{s:Je}
theorem EnvR.weak{ρ':Rho}(x:EnvR C env ρ σ h)(k:∀y q,ρ'.get y=Ja q->ρ.get y=Ja q):EnvR C env ρ' σ h:=
 ⟨x.fn,x.glob,x.blt,by obtain⟨m,a,b⟩:=x.ns;exact⟨m,a,λy p e=>b y p<|k y p e⟩,λy p e=>x.cell y p<|k y p e,x.newL,x.baseL,x.baseC,x.newC,x.apart,x.hasC⟩
noncomputable def slot(env:Js)(xs:List String):Jg->Prop:=λb=>∃x∈xs,(env.kindOf (Qb x)=Ja .local/\b=env.locals)\/(env.kindOf (Qb x)=Ja .cell/\env.cells.lookup (Qb x)=Ja b)
structure Asg(C:Cx)(env:Js)(F:Jg->Prop)(σ:PH)(h h':Ji):Prop where
 mv:Mv F h h'
 fok:Fok C σ h F
 frs:∀l,Frs C σ h l->Frs C σ h' l
 sim:Sim C σ h'
 has:∀c,F c->(∀o,h.get? c=Ja o->¬isSeq o)/\∃o,h'.get? c=Ja o/\¬isSeq o
theorem cG{o:Jp}(h:o.data= .dict es n):¬isSeq o:=λz=>by obtain⟨x,n,e⟩:=z;rw[h] at e;cases e
theorem fT{o:Jp}(h:o.data= .cell v):¬isSeq o:=λz=>by obtain⟨x,n,e⟩:=z;rw[h] at e;cases e
theorem gC{h:Ji}(e:h.get? c=Ja o)(q:¬isSeq o):∀vs n,h.get? c≠Ja (tupO vs n):=λvs n x=>by obtain rfl:=sj<|e.symm.trans x;exact q ⟨vs,n,rfl⟩
theorem lI{K:Unit->Je->Prop}(W:EnvR C env ρ σ s.heap)(m:Sim C σ s.heap)
  (hx:env.kindOf (Qb x)=Ja .local\/env.kindOf (Qb x)=Ja .cell)(hv:VR C σ s.heap p v)
  (hK:∀s',Asg C env (slot env [x]) σ s.heap s'.heap->EnvR C env (ρ.put x p) σ s'.heap->Rest s s'->K () s'):Jh (Mo C) A (storeName env (Qb x) v) K Er s:=by
 rcases hx with hx|hx
 ·obtain⟨mm,g,hm⟩:=W.ns;have hp:(env.scope.kind== .class||(env.scope.kind== .module&&env.locals !=env.globals))=Jd:=by rw[W.fn];rfl
  refine wpAny_storeName_local hx g (λu n h=> ?_) hp;have j:∀c,slot env [x] c->c=env.locals:=by
   rintro c ⟨y,Q,q|q⟩
   ·exact q.2
   ·rw[Qk] at Q;subst Q;rw[hx] at q;cases q.1
  obtain⟨o,es,ep,Y,G,o0⟩:=id g;obtain⟨O,z,aa,J,S,o0⟩:=id n;have mv:Mv (slot env [x]) s.heap u:=λc o f e=>h.extBut c o (λq=>f ⟨x,Qk.mpr rfl,.inl ⟨hx,q⟩⟩) e;have N:Fok C σ s.heap (slot env [x]):=λc f=>by
   have:=j c f;subst this;exact⟨W.baseL,.inl ⟨W.newL,gC Y<|cG G⟩⟩
  have i:∀c,slot env [x] c->σ c=Ja .hid->∃a b,u.get? c=Ja (tupO #[a,b] 0):=λc f q=>by
   have:=j c f;subst this;exact ns<|W.newL.symm.trans q
  refine hK _ ⟨mv,N,λl f=> ?_,m.mv mv N i,λc f=> ?_⟩ ?_ ⟨rfl,rfl⟩
  ·intro en he;obtain⟨k,L,P,B,D,T,F,X,I,V⟩:=f en he;by_cases q:L=env.locals
   ·subst q;exact⟨k,_,O,z,aa,T,F,X,J,S⟩
   ·exact⟨k,L,P,B,D,T,F,X,h.extBut _ _ q I,V⟩
  ·have:=j c f;subst this;exact⟨λP q=>by obtain rfl:=sj<|Y.symm.trans q;exact cG G,O,J,cG S⟩
  ·have nc:∀y c,env.cells.lookup y=Ja c->c≠env.locals:=by
    rintro y c q rfl;obtain⟨o0,v1,P,H,R⟩:=W.newC y _ q;obtain rfl:=sj<|Y.symm.trans H;rw[G] at R;cases R
   refine⟨W.fn,W.glob,W.blt,⟨_,n,λy q T F=> ?_⟩,λy q T F=> ?_,W.newL,W.baseL,W.baseC,λy c e=> ?_,W.apart,W.hasC⟩
   ·rcases Rho.get_put T with⟨rfl,rfl⟩|⟨U,T⟩
    ·exact⟨v,Uh rfl,hv.mv mv N⟩
    ·obtain⟨w,a,b⟩:=hm y q T F;exact⟨w,by rw[Ug (λe=>U<|ofString_inj e)];exact a,b.mv mv N⟩
   ·rcases Rho.get_put T with⟨rfl,rfl⟩|⟨U,T⟩
    ·rw[hx] at F;rcases F with F|F<;>cases F
    ·obtain⟨c,w,a,b,d⟩:=W.cell y q T F;exact⟨c,w,a,b.sameBut h<|nc _ c a,d.mv mv N⟩
   ·obtain⟨a,w,b⟩:=W.newC y c e;exact⟨a,w,b.sameBut h<|nc _ c e⟩
 ·obtain⟨c,Z⟩:=W.hasC _<|.inl hx;obtain⟨M,ab,t⟩:=W.newC _ c Z;refine wpAny_storeName_cell W.fn hx Z t λu E h=> ?_;have j:∀d,slot env [x] d->d=c:=by
   rintro d ⟨y,Q,q|q⟩
   ·rw[Qk] at Q;subst Q;rw[hx] at q;cases q.1
   ·rw[Qk] at Q;subst Q;rw[Z] at q;obtain rfl:=sj q.2;rfl
  obtain⟨o,Y,G⟩:=id t;obtain⟨O,J,S⟩:=id E;have mv:Mv (slot env [x]) s.heap u:=λd o f e=>h.extBut d o (λq=>f ⟨x,Qk.mpr rfl,.inr ⟨hx,by rw[q];exact Z⟩⟩) e;have N:Fok C σ s.heap (slot env [x]):=λd f=>by
   have:=j d f;subst this;exact⟨W.baseC _ _ Z,.inl ⟨M,gC Y<|fT G⟩⟩
  have i:∀d,slot env [x] d->σ d=Ja .hid->∃a b,u.get? d=Ja (tupO #[a,b] 0):=λd f q=>by
   have:=j d f;subst this;exact ns<|M.symm.trans q
  refine hK _ ⟨mv,N,λl f=> ?_,m.mv mv N i,λd f=> ?_⟩ ?_ ⟨rfl,rfl⟩
  ·intro en he;obtain⟨k,L,P,B,D,T,F,X,I,V⟩:=f en he;have q:L≠c:=by rintro rfl;obtain rfl:=sj<|Y.symm.trans I;rw[G] at V;cases V
   exact⟨k,L,P,B,D,T,F,X,h.extBut _ _ q I,V⟩
  ·have:=j d f;subst this;exact⟨λP q=>by obtain rfl:=sj<|Y.symm.trans q;exact fT G,O,J,fT S⟩
  ·obtain⟨mm,g,hm⟩:=W.ns;have nl:env.locals≠c:=by
    rintro q;obtain⟨P,es,ep,H,R,o0⟩:=g;rw[q,Y] at H;obtain rfl:=sj H;rw[G] at R;cases R
   refine⟨W.fn,W.glob,W.blt,⟨mm,Ns.like g λo e=>⟨o,h.extBut _ _ nl e,.refl o⟩,λy q T F=> ?_⟩,λy q T F=> ?_,W.newL,W.baseL,W.baseC,λy d e=> ?_,W.apart,W.hasC⟩
   ·rcases Rho.get_put T with⟨rfl,rfl⟩|⟨U,T⟩
    ·rw[hx] at F;cases F
    ·obtain⟨w,a,b⟩:=hm y q T F;exact⟨w,a,b.mv mv N⟩
   ·rcases Rho.get_put T with⟨rfl,rfl⟩|⟨U,T⟩
    ·exact⟨c,v,Z,E,hv.mv mv N⟩
    ·obtain⟨d,w,a,b,r⟩:=W.cell y q T F;have:d≠c:=by rintro rfl;exact U (ofString_inj<|W.apart _ _ _ a Z)
     exact⟨d,w,a,b.sameBut h this,r.mv mv N⟩
   ·obtain⟨a,w,b⟩:=W.newC y d e;by_cases q:d=c
    ·subst q;exact⟨a,Ja v,E⟩
    ·exact⟨a,w,b.sameBut h q⟩
theorem Asg.refl{F:Jg->Prop}{h:Ji}(m:Sim C σ h)(fo:Fok C σ h F)(a:∀c,F c->∃o,h.get? c=Ja o/\¬isSeq o):Asg C env F σ h h:=
 ⟨.refl,fo,λo0 f=>f,m,λc f=>by obtain⟨o,e,q⟩:=a c f;exact⟨λP T=>by obtain rfl:=sj<|e.symm.trans T;exact q,o,e,q⟩⟩
theorem Asg.trans{F I:Jg->Prop}{h S H:Ji}(x:Asg C env F σ h S)(y:Asg C env I σ S H):Asg C env (λc=>F c\/I c) σ h H where
 mv:=λc o f e=>y.mv c o (λq=>f<|.inr q)<|x.mv c o (λq=>f<|.inl q) e
 fok:=λc f=>by
  by_cases q:F c
  ·exact x.fok c q
  ·rcases f with f|f
   ·exact absurd f q
   ·obtain⟨a,b⟩:=y.fok c f;refine⟨a,b.imp (λz=>by obtain⟨d,V⟩:=z;exact⟨d,λv n e=>V v n<|x.mv c _ q e⟩) id⟩
 frs:=λl f=>y.frs l<|x.frs l f
 sim:=y.sim
 has:=λc f=>by
  by_cases q:I c
  ·obtain⟨a,b⟩:=y.has c q;refine⟨λo e=> ?_,b⟩;by_cases Z:F c
   ·exact(x.has c Z).1 o e
   ·exact a o<|x.mv c o Z e
  ·rcases f with f|f
   ·obtain⟨a,o,e,b⟩:=x.has c f;exact⟨a,o,y.mv c o q e,b⟩
   ·exact absurd f q
theorem Asg.mono{F I:Jg->Prop}{h S:Ji}(x:Asg C env F σ h S)(k:∀c,I c↔F c):Asg C env I σ h S:=
 ⟨x.mv.mono λc f=>(k c).mpr f,λc f=>x.fok c<|(k c).mp f,x.frs,x.sim,λc f=>x.has c<|(k c).mp f⟩
theorem rX:slot env (x::xs) c↔(slot env [x] c\/slot env xs c):=by
 constructor
 ·rintro ⟨y,h,q⟩
  rcases Qx.mp h with rfl|h
  ·exact .inl ⟨y,Qk.mpr rfl,q⟩
  ·exact .inr ⟨y,h,q⟩
 ·rintro (⟨y,h,q⟩|⟨y,h,q⟩)
  ·rw[Qk] at h;subst h;exact⟨y,Kq,q⟩
  ·exact⟨y,Kl _ h,q⟩
theorem kr{K:Unit->Je->Prop}(e:EnvR C env ρ σ s.heap)(m:Sim C σ s.heap)
  (hx:env.kindOf (Qb x)=Ja .local\/env.kindOf (Qb x)=Ja .cell)(hv:VR C σ s.heap p v)
  (h:∀s',Asg C env (slot env [x]) σ s.heap s'.heap->EnvR C env (ρ.put x p) σ s'.heap->Rest s s'->K () s'):Jh (Mo C) A (assign (.Name (Qb x) pos) env v) K Er s:=
 wpAny_assign_Name (lI e m hx hv h)
theorem qj(h:eC sc (x::xs) (.Name y pos::es)=Jc):y=Qb x/\isOwn sc y=Jc/\eC sc xs es=Jc:=by
 have h:=Qh.mp (show((((Vl.Internal.nm y x&&isOwn sc y)&&bB y)&& !xs.contains x)&&eC sc xs es)=Jc from h);have N:=Qh.mp (Qh.mp (Qh.mp h.1).1).1;exact⟨beq_iff_eq.mp N.1,N.2,h.2⟩
theorem vg(h:mTg sc (.name x) (.Name y pos)=Jc):y=Qb x/\isOwn sc y=Jc:=by
 have h:=Qh.mp (Qh.mp (show((Vl.Internal.nm y x&&isOwn sc y)&&bB y)=Jc from h)).1;exact⟨beq_iff_eq.mp h.1,h.2⟩
theorem jk:∀ {xs:List String} {es:List Jl} {ps:List PV} {vs:List Jf} {ρ:Rho} {s:Je} {K:Unit->Je->Prop},eC sc xs es=Jc->EnvR C env ρ σ s.heap->Sim C σ s.heap->
  (∀x∈xs,env.kindOf (Qb x)=Ja .local\/env.kindOf (Qb x)=Ja .cell)->VRs C σ s.heap ps vs->ps.length=xs.length->
  (∀s',Asg C env (slot env xs) σ s.heap s'.heap->EnvR C env (ρ.puts xs ps) σ s'.heap->Rest s s'->K () s')->Jh (Mo C) A (assignInOrder ((JQ es env).map (·.2)) vs) K Er s
 |[],[],ps,vs,ρ,s,K,hm,ev,m,hx,hv,hl,hK=>by
  have:ps=[]:=Wx.mp hl;subst this;change _=_ at hv;subst hv;exact YB<|hK s (.refl m (λc z'=>by obtain⟨y,hy,o0⟩:=z';cases hy) (λc z'=>by obtain⟨y,hy,_⟩:=z';cases hy)) ev ⟨rfl,rfl⟩
 |[],_::_,_,_,_,_,_,hm,_,_,_,_,_,_=>by exact ft hm
 |x::xs,[],_,_,_,_,_,hm,_,_,_,_,_,_=>by exact ft hm
 |x::xs,e::es,ps,vs,ρ,s,K,hm,ev,m,hx,hv,hl,hK=>by
  induction e using Expr.casesOn with
  |Name y pos=>
   obtain⟨rfl,o0,hm⟩:=qj hm
   induction ps using List.casesOn with
   |nil=>simp at hl
   |cons p ps=>
    obtain⟨v,r,rfl,hv,hr⟩:=hv;show Jh _ _ (holding r (assign _ env v)>>=λo0=>assignInOrder ((JQ es env).map (·.2)) r) K Er s;refine YA<|YE (kr ev m (hx x Kq) hv λs1 a1 ev1 r1=> ?_);refine jk hm ev1 a1.sim (λy hy=>hx y<|Kl _ hy) (hr.mv a1.mv a1.fok) (by simpa using hl) λs2 a2 ev2 r2=> ?_;exact hK s2 ((a1.trans a2).mono λc=>rX) ev2<|r1.trans r2
  |_=>first|exact bnx hm|exact onx hm|cases hm
theorem lb:∀ {xs:List String} {es:List Jl},eC sc xs es=Jc->(JQ es env).length=xs.length/\(JQ es env).findIdx? (·.1)=Jb
 |[],[]=>λo0=>⟨rfl,rfl⟩
 |[],_::_=>λhm=>by exact ft hm
 |x::xs,[]=>λhm=>by exact ft hm
 |x::xs,e::es=>λhm=>by
  induction e using Expr.casesOn with
  |Name y pos=>
   obtain⟨a,b⟩:=lb (qj hm).2.2;refine⟨Uk (· +1) a,?_⟩;show List.findIdx? (·.1) ((Jd,_)::JQ es env)=Jb;rw[List.findIdx?_cons,b];rfl
  |_=>first|exact bnx hm|exact onx hm|cases hm
theorem iN{tg:Tg}{K:Unit->Je->Prop}(hh:HdR A σ)(ht:mTg sc tg t=Jc)(ev:EnvR C env ρ σ s.heap)(m:Sim C σ s.heap)
  (hx:∀x∈tg.names,env.kindOf (Qb x)=Ja .local\/env.kindOf (Qb x)=Ja .cell)(hv:VR C σ s.heap p v)(hb:bindT tg p ρ=Ja ρ')
  (hK:∀s',Asg C env (slot env tg.names) σ s.heap s'.heap->EnvR C env ρ' σ s'.heap->Rest s s'->K () s'):Jh (Mo C) A (assign t env v) K Er s:=by
 induction tg with
 |name x=>
  induction t using Expr.casesOn with
  |Name y pos=>
   obtain⟨rfl,o0⟩:=vg ht;obtain rfl:=sj (show Ja (ρ.put x p)=Ja ρ' from hb);exact kr ev m (hx x<|Qk.mpr rfl) hv hK
  |_=>first|exact bnx ht|exact onx ht|cases ht
 |tup xs=>
  induction t using Expr.casesOn with
  |Tuple es a b=>
   replace ht:eC sc xs es=Jc:=ht
   induction p using PV.casesOn with
   |tup ps=>
    have hb:(if ps.length=xs.length then Ja (ρ.puts xs ps) else Jb)=Ja ρ':=hb;by_cases hl:ps.length=xs.length
    ·obtain rfl:=sj<|(Uh hl).symm.trans hb;obtain⟨a,n,vs,rfl,es',g1,g2⟩:=hv;obtain⟨q1,q2⟩:=lb (env:=env) ht;have hsz:vs.size=ps.length:=by simpa using g2.length
     refine m8 (hh.ok m) ⟨_,g1,rfl,n,rfl⟩ (by rw[q1,hsz,hl]) q2 λh' he=> ?_;have kp:∀b o,s.heap.get? b=Ja o->h'.get? b=Ja o:=λb o e=>he b o (Kn<|QH e) e;have st:Step none1 σ s.heap σ h':= .more kp;refine jk (s:={s with heap:=h'}) ht (ev.step st) (m.more kp) hx (g2.step st) hl λs2 a2 ev2 r2=> ?_;refine hK s2 ⟨λc o f e=>a2.mv c o f<|kp c o e,λc f=> ?_,λl f=>a2.frs l<|f.step st λo0 o0 o0 o0 q=>q,a2.sim,λc f=> ?_⟩ ev2 r2
     ·obtain⟨q3,q4⟩:=a2.fok c f;exact⟨q3,q4.imp (λz'=>by obtain⟨b1,b2⟩:=z';exact⟨b1,λvs n e=>b2 vs n<|kp c _ e⟩) id⟩
     ·obtain⟨q3,q4⟩:=a2.has c f;exact⟨λo e=>q3 o<|kp c o e,q4⟩
    ·exact ns<|(Ug hl).symm.trans hb
   |_=>exact ns hb
  |_=>first|exact bnx ht|exact onx ht|cases ht
end
theorem bW{L:Type}{x y:Jq}{v:L}{l:List (Jq×L)}(h:x≠y):Yx x ((y,v)::l)=Yx x l:=by
 rw[Yr,beq_eq_false_iff_ne.mpr h]
theorem lookup_cons_self{L:Type}{x:Jq}{v:L}{l:List (Jq×L)}:Yx x ((x,v)::l)=Ja v:=by
 rw[Yr,beq_self_eq_true]
theorem i8{env:Js}:∀ (names:List (Jq×J0)) (acc:List (Jq×Jg)),(∀n,(n,NameKind.free)∈names->∃c,env.cells.lookup n=Ja c)->(∀x c,acc.lookup x=Ja c->env.cells.lookup x=Ja c)->
  ∃cl,(forIn names acc (λ(p:Jq×J0) (cs:List (Jq×Jg))=>if(p.2==NameKind.free)=Jc then do let a<-cellOf env p.1;pure (ForInStep.yield ((p.1,a)::cs)) else pure (ForInStep.yield cs)):Sem _)=pure cl/\
   (∀x c,cl.lookup x=Ja c->env.cells.lookup x=Ja c)/\(∀x,((x,NameKind.free)∈names\/(acc.lookup x).isSome)->(cl.lookup x).isSome)
 |[]=>λacc o0 ha=>⟨acc,rfl,ha,λx h=>h.elim (λq=>by cases q) id⟩
 |(n,k)::r=>λacc hf ha=>by
  by_cases hk:k= .free
  ·subst hk;obtain⟨c,hc⟩:=hf n Kq;obtain⟨cl,e1,e2,e3⟩:=i8 r ((n,c)::acc) (λy hy=>hf y (Kl _ hy)) (λx d hx=>by
    by_cases q:x=n
    ·subst q;obtain rfl:=sj<|lookup_cons_self.symm.trans hx;exact hc
    ·rw[bW q] at hx;exact ha x d hx)
   refine⟨cl,?_,e2,λx h=>e3 x ?_⟩
   ·rw[List.forIn_cons];simp only[beq_self_eq_true,if_true];have:cellOf env n=pure c:=by unfold cellOf;rw[hc]
    rw[this];exact e1
   ·rcases h with h|h
    ·rcases Qx.mp h with h|h
     ·cases h;right;rw[lookup_cons_self];rfl
     ·exact .inl h
    ·right
     by_cases q:x=n
     ·subst q;rw[lookup_cons_self];rfl
     ·rw[bW q];exact h
  ·obtain⟨cl,e1,e2,e3⟩:=i8 r acc (λy hy=>hf y<|Kl _ hy) ha;refine⟨cl,?_,e2,λx h=>e3 x ?_⟩
   ·rw[List.forIn_cons];have:(k==NameKind.free)=Jd:=by simpa using hk
    simp only[this,Wy,if_false];exact e1
   ·rcases h with h|h
    ·rcases Qx.mp h with h|h
     ·cases h;exact absurd rfl hk
     ·exact .inl h
    ·exact .inr h
theorem lS{env:Js}{scope:Jk}(hf:∀n,(n,NameKind.free)∈scope.names->∃c,env.cells.lookup n=Ja c):
  ∃cl,closureFor scope env=pure cl/\(∀x c,cl.lookup x=Ja c->env.cells.lookup x=Ja c)/\(∀x,(x,NameKind.free)∈scope.names->∃c,cl.lookup x=Ja c):=by
 obtain⟨cl,e1,e2,e3⟩:=i8 scope.names [] hf (λx c h=>by simp at h);refine⟨cl,?_,e2,λx h=>WX.mp (e3 x (.inl h))⟩;simp only[closureFor];have:(forIn scope.names ([]:List (Jq×Jg)) (λ(x:Jq×J0) (cs:List (Jq×Jg))=>match x with
   |(name,kind)=>if(kind==NameKind.free)=Jc then do let a<-cellOf env name;pure (ForInStep.yield ((name,a)::cs)) else pure (ForInStep.yield cs)):Sem _)=pure cl:=e1
 first|exact this|(rw[this];rfl)
theorem gb:∀ (names:List (Jq×J0)) (n:Nat) (a:List (Jq×Jg)) (x:Jq),(x,NameKind.cell)∉names->(JS n names a).lookup x=a.lookup x
 |[]=>λo0 o0 o0 o0=>rfl
 |(y,k)::r=>λn a x h=>by
  have T:(x,NameKind.cell)∉r:=λq=>h<|Kl _ q;unfold JS
  split
  ·rename_i M
   rw[gb r (n+1) _ x T,bW];rintro rfl;have:k= .cell:=by simpa using M
   subst this;exact h Kq
  ·exact gb r n a x T
theorem fD:∀ (names:List (Jq×J0)) (n:Nat) (u:List (Jq×Jg)) (x:Jq),(x,NameKind.cell)∈names->∃c,n<=c/\(JS n names u).lookup x=Ja c
 |(y,k)::r,n,u,x,h=>by
  by_cases T:(x,NameKind.cell)∈r
  ·unfold JS
   split
   ·obtain⟨c,a,b⟩:=fD r (n+1) ((y,n)::u) x T;exact⟨c,Kj a,b⟩
   ·exact fD r n u x T
  ·rcases Qx.mp h with h|h
   ·cases h;unfold JS;rw[Uh (by rfl)];refine⟨n,QA _,?_⟩;rw[gb r (n+1) _ _ T,lookup_cons_self]
   ·exact absurd h T
structure CellsR(h:Ji)(lo:Nat)(cs acc:List (Jq×Jg)):Prop where
 new:∀n c,cs.lookup n=Ja c->(lo<=c/\h.IsCell c Jb)\/acc.lookup n=Ja c
 apart:∀n n' c,lo<=c->cs.lookup n=Ja c->cs.lookup n'=Ja c->n=n'
theorem qC:∀ (names:List (Jq×J0)) (h:Ji) (l:Nat) (g u:List (Jq×Jg)),CellsR h l u g->(∀n c,u.lookup n=Ja c->c<h.objs.size)->l<=h.objs.size->
  CellsR (Ua h names) l (JS h.objs.size names u) g
 |[]=>λo0 o0 o0 o0 x o0 o0=>x
 |(m,k)::r=>λh l g u x R hlo=>by
  unfold Ua JS
  split
  ·have:=qC r (h.push {cls:= .type "cell",data:= .cell Jb}) l g ((m,h.objs.size)::u)
    ⟨λn c L=>by
     by_cases q:n=m
     ·subst q;obtain rfl:=sj<|lookup_cons_self.symm.trans L;exact .inl ⟨hlo,⟨_,QG _ rfl,rfl⟩⟩
     ·rw[bW q] at L;exact(x.new n c L).imp (λz=>by obtain⟨a,b⟩:=z;exact⟨a,b.keeps λb o e=>Qm _ e⟩) id,
    λn X c Z N p=>by
     by_cases q:n=m
     ·subst q;obtain rfl:=sj<|lookup_cons_self.symm.trans N;by_cases B:X=n
      ·exact B.symm
      ·rw[bW B] at p;exact absurd (R X _ p)<|KG _
     ·rw[bW q] at N;by_cases B:X=m
      ·subst B;obtain rfl:=sj<|lookup_cons_self.symm.trans p;exact absurd (R n _ N)<|KG _
      ·rw[bW B] at p;exact x.apart n X c Z N p⟩
    (λn c L=>by
     rw[Kh];by_cases q:n=m
     ·subst q;obtain rfl:=sj<|lookup_cons_self.symm.trans L;exact QW _
     ·rw[bW q] at L;exact KU (R n c L)) (by rw[Kh];exact Yk hlo)
   rwa [Kh] at this
  ·exact qC r h l g u x R hlo
section
variable{C:Cx}{A:Jj}{E:Jf->Je->Prop}{s:Je}
noncomputable def compE(scope:Jk)(c:List (Jq×Jg))(L:Jg)(env:Js):Js:=
 {scope,locals:=L,globals:=env.globals,cells:=JS (L+1) scope.names c,qual:=env.qual,func:=Jb,code:=env.code,frame:=env.frame,builtins:=env.builtins}
theorem qq{env:Js}{scope:Jk}{Q:Js->Je->Prop}
  (h:Q (compE scope l s.heap.objs.size env) {s with heap:=Ua (s.heap.push {cls:= .type "dict",data:= .dict #[]}) scope.names}):
  Jh (Mo C) A (newFunctionEnv scope env.globals l [] env.qual Jb .none (Ja env)) Q E s:=by
 simp only[newFunctionEnv,Option.isSome_some,if_true];refine YA<|wpAny_alloc ?_;refine YA<|wpAny_layCells _ (λn k c=>by cases P:k==NameKind.cell<;>simp) _ _ _ _ ?_;rw[show({s with heap:=s.heap.push {cls:= .type "dict",data:= .dict #[]}}:Je).heap.objs.size=s.heap.objs.size+1 from Kh ..];exact YA<|YB (YB h)
theorem hW{f:Jq×J0->J0}:∀ {names:List (Jq×J0)} {x:Jq},(names.map λp=>(p.1,f p)).lookup x=(names.lookup x).map λk=>f (x,k)
 |[],x=>rfl
 |(n,k)::r,x=>by
  by_cases q:x=n
  ·subst q;simp only[Qo,lookup_cons_self,Wc]
  ·simp only[Qo,bW q];exact hW
theorem mP{env c:Js}{scope:Jk}(h:env.scope.kind= .function):
  Env.kindOf {c with scope:=relabel scope env} x=(scope.names.lookup x).map λk=>if k= .free/\env.kindOf x=Ja .cell then .cell else k:=by
 show(relabel scope env).names.lookup x=_;have:(relabel scope env).names=scope.names.map λp=>(p.1,if(p.2== .free&&env.scope.kind== .function&&env.kindOf p.1==Ja .cell)=Jc then .cell else p.2):=by
  unfold relabel;refine Qs λp o0=> ?_;obtain⟨n,k⟩:=p;dsimp only
  split<;>rfl
 rw[this,hW]
 congr 1
 funext k;simp only[h,beq_self_eq_true,WA,QL,beq_iff_eq]
theorem kW{sc c:Jk}(h:eY sc c=Jc):c.kind= .function/\(∀n,(n,NameKind.free)∈c.names->sc.names.lookup n=Ja .cell\/sc.names.lookup n=Ja .free)/\(∀n k,(n,k)∈c.names->c.names.lookup n=Ja k):=by
 simp only[eY,QL,beq_iff_eq,Qy,Uj] at h;obtain⟨⟨⟨⟨⟨N,o0⟩,o0⟩,p⟩,J⟩,o0⟩:=h;refine⟨N,λn o=> ?_,λn k o=>J (n,k) o⟩;have:=p (n,.free) o
 simpa [WW] using this
structure ScR(sc:Jk)(env:Js):Prop where
 loc:∀y,sc.names.lookup y=Ja .local->env.kindOf y=Ja .local
 cell:∀y,sc.names.lookup y=Ja .cell->env.kindOf y=Ja .cell
 free:∀y,sc.names.lookup y=Ja .free->env.kindOf y=Ja .cell\/env.kindOf y=Ja .free
 glob:∀y,sc.names.lookup y=Ja .globalImplicit->env.kindOf y=Ja .globalImplicit
theorem ScR.self(env:Js):ScR env.scope env:=⟨λo0 h=>h,λo0 h=>h,λo0 h=> .inr h,λo0 h=>h⟩
theorem uK{env:Js}{scope:Jk}{j:List (Jq×Jg)}(W:EnvR C env L σ s.heap)(m:Sim C σ s.heap)(G:ScR sc env)(ok:eY sc scope=Jc)(U:ownOk tg scope=Jc)
  (K:∀x c,j.lookup x=Ja c->env.cells.lookup x=Ja c)(V:∀x,(x,NameKind.free)∈scope.names->∃c,j.lookup x=Ja c)
  {i:Js}(Z:i={compE scope j s.heap.objs.size env with scope:=relabel scope env}){S:Ji}(Y:S=Ua (s.heap.push {cls:= .type "dict",data:= .dict #[]}) scope.names):
  EnvR C i (blank tg L) σ S/\(∀b o,s.heap.get? b=Ja o->S.get? b=Ja o)/\i.locals=s.heap.objs.size/\
  (∀x,scope.names.lookup x=Ja .local->i.kindOf x=Ja .local)/\(∀x,scope.names.lookup x=Ja .cell->i.kindOf x=Ja .cell/\∀c,i.cells.lookup x=Ja c->s.heap.objs.size<=c)/\
  (∀x k,scope.names.lookup x=Ja k->k≠ .free->i.kindOf x=Ja k)/\(∀x,scope.names.lookup x=Ja .free->i.kindOf x=Ja .cell\/i.kindOf x=Ja .free)/\(∀x c,i.cells.lookup x=Ja c->s.heap.objs.size<=c\/env.cells.lookup x=Ja c):=by
 obtain⟨g,X,I⟩:=kW ok;have X:∀n,(n,NameKind.free)∈scope.names->env.kindOf n=Ja .cell\/env.kindOf n=Ja .free:=λn hn=>(X n hn).elim (λq=> .inl (G.cell n q)) (G.free n);have z:∀x,i.kindOf x=(scope.names.lookup x).map λk=>if k= .free/\env.kindOf x=Ja .cell then .cell else k:=λx=>by rw[Z];exact mP W.fn
 have kp:∀b o,s.heap.get? b=Ja o->S.get? b=Ja o:=λb o e=>by rw[Y];exact pushCells_keeps _ _ b o<|Qm _ e
 have r:i.locals=s.heap.objs.size:=by rw[Z];rfl
 have J:i.cells=JS (s.heap.objs.size+1) scope.names j:=by rw[Z];rfl
 have R:CellsR S (s.heap.objs.size+1) i.cells j:=by
  have:=qC scope.names (s.heap.push {cls:= .type "dict",data:= .dict #[]}) (s.heap.objs.size+1) j j ⟨λn c h=> .inr h,λn n' c Z N B=>by
   obtain⟨o0,v,o,q,o0⟩:=W.newC n c (K n c N);exact absurd (QH q) (Kd.mpr (Kj Z))⟩ (λn c h=>by
    obtain⟨o0,v,o,q,o0⟩:=W.newC n c (K n c h);rw[Kh];exact KU (QH q)) (by rw[Kh];exact QA _)
  rw[Kh] at this;rw[J,Y];exact this
 have old:∀x c,i.cells.lookup x=Ja c->c<s.heap.objs.size+1->env.cells.lookup x=Ja c:=λx c h q=>by
  rcases R.new x c h with⟨a,o0⟩|a
  ·exact absurd q<|Kd.mpr a
  ·exact K x c a
 have P:∀x,scope.names.lookup x=Ja .cell->∃c,s.heap.objs.size+1<=c/\i.cells.lookup x=Ja c:=λx h=>by
  rw[J];exact fD _ _ _ _<|mem_of_lookup h
 have t:∀x,scope.names.lookup x=Ja .free->i.cells.lookup x=j.lookup x:=λx h=>by
  rw[J];refine gb _ _ _ _ λq=> ?_;have:=I x .cell q;rw[h] at this;cases this
 have st:Step none1 σ s.heap σ S:= .more kp;refine⟨⟨?_,?_,?_,?_,?_,?_,?_,?_,?_,?_,?_⟩,kp,r,?_,?_,?_,?_,?_⟩
 ·rw[Z];exact g
 ·rw[Z];exact W.glob
 ·rw[Z];exact W.blt
 ·refine⟨λo0=>Jb,?_,λx p T F=> ?_⟩
  ·rw[r,Y];exact(Heap.Ns.new s.heap<|.type "dict").keeps (pushCells_keeps _ _)
  ·obtain⟨D,O,o0⟩:=jR T;rw[z] at F;exfalso
   induction e:scope.names.lookup (Qb x) with
   |none=>rw[e] at F;exact ns F
   |some k=>
    rw[e] at F;simp only[Wc,Option.some.injEq] at F
    split at F
    ·cases F
    ·subst F;simp only[ownOk,Qy] at U;have:=U _<|mem_of_lookup e;simp[Vl.Internal.nm] at this
     rcases this with this|⟨y,u,this⟩
     ·exact D<|ofString_inj this
     ·exact O<|ofString_inj this▸u
 ·intro x p T F;obtain⟨D,O,T⟩:=jR T;have f:scope.names.lookup (Qb x)=Ja .free:=by
   rw[z] at F
   induction e:scope.names.lookup (Qb x) with
   |none=>rw[e] at F;rcases F with F|F<;>exact ns F
   |some k=>
    rw[e] at F;simp only[Wc,Option.some.injEq] at F;by_cases M:k= .free
    ·rw[M]
    ·rw[Ug (λq=>M q.1)] at F
     rcases F with F|F
     ·subst F;simp only[ownOk,Qy] at U;have:=U _<|mem_of_lookup e;simp[Vl.Internal.nm] at this
      rcases this with this|⟨y,u,this⟩
      ·exact absurd (ofString_inj this) D
      ·exact absurd (ofString_inj this▸u) O
     ·exact absurd F M
  obtain⟨c,l⟩:=V _<|mem_of_lookup f;have:=X _<|mem_of_lookup f;obtain⟨Q,v,a,b,d⟩:=W.cell x p T this;have:Q=c:=by have:=K _ _ l;obtain rfl:=sj<|a.symm.trans this;rfl
  subst this;exact⟨Q,v,(t _ f).trans l,b.keeps kp,d.step st⟩
 ·rw[r];exact m.fresh<|QA _
 ·rw[r];exact m.freshB<|QA _
 ·intro x c h;by_cases q:c<s.heap.objs.size+1
  ·exact W.baseC x c<|old x c h q
  ·exact m.freshB<|Kj (Kd.mp q)
 ·intro x c h
  rcases R.new x c h with⟨a,b⟩|a
  ·exact⟨m.fresh<|Kj a,_,b⟩
  ·obtain⟨q,v,b⟩:=W.newC x c<|K x c a;exact⟨q,v,b.keeps kp⟩
 ·intro x y c N B;by_cases q:c<s.heap.objs.size+1
  ·exact W.apart x y c (old x c N q)<|old y c B q
  ·exact R.apart x y c (Kd.mp q) N B
 ·intro x h;rw[z] at h
  induction e:scope.names.lookup x with
  |none=>rw[e] at h;rcases h with h|h<;>exact ns h
  |some k=>
   by_cases M:k= .free
   ·subst M;obtain⟨c,l⟩:=V _<|mem_of_lookup e;exact⟨c,(t _ e).trans l⟩
   ·rw[e] at h;simp only[Wc,Option.some.injEq] at h;rw[Ug (λq=>M q.1)] at h
    rcases h with h|h
    ·subst h;obtain⟨c,o0,q⟩:=P _ e;exact⟨c,q⟩
    ·exact absurd h M
 ·intro x h;rw[z,h];rfl
 ·intro x h;refine⟨by rw[z,h];rfl,λc hx=> ?_⟩;obtain⟨Q,q1,H⟩:=P x h;obtain rfl:=sj<|hx.symm.trans H;exact Kj q1
 ·intro x k h M;rw[z,h,Wc,Ug (λq=>M q.1)]
 ·intro x h;rw[z,h,Wc];by_cases q:env.kindOf x=Ja .cell
  ·rw[Uh ⟨rfl,q⟩];exact .inl rfl
  ·rw[Ug (λw=>q w.2)];exact .inr rfl
 ·intro x c h
  rcases R.new x c h with⟨a,o0⟩|a
  ·exact .inl<|Kj a
  ·exact .inr<|K x c a
end
section
variable{C:Cx}{A:Jj}{R:Result->Je->Prop}{s:Je}
noncomputable abbrev tests(ifs:List Jl)(env:Js):Sem Bool:=forIn ifs Jc λc r=>if r=Jc then do let ok<-Ub c env (Jx c env);pure (ForInStep.yield ok) else pure (ForInStep.yield r)
theorem nB{Er:Jf->Je->Prop}(hEr:Er=notedBy (Mo C) A env λe s'=>R (.error e) s')(I:Nat->Je->Prop)
  (turn:∀n s,I n s->Jh (Mo C) A (Ju it) (λr s₁=>match r with
   |none=>R (.ok .next) s₁
   |some v=>Jh (Mo C) A (letOwnedTupleGo target it v) (λo0 s₁'=>Jh (Mo C) A (assign target env v) (λo0 s₂=>
     Jh (Mo C) A (tests ifs env) (λok s₃=>
      if ok=Jc then Jh (Mo C) A (Jx elt env) (λx s₄=>
       Jh (Mo C) A (call (.builtin "list.append") [acc,x]) (λo0 s₅=>∃m,m<n/\I m s₅) Er s₄) Er s₃
      else∃m,m<n/\I m s₃) Er s₂) Er s₁') Er s₁) Er s)
  (n:Nat)(h:I n s):
  codeAny (Mo C) A (.compLoop (.ListComp elt [⟨target,iter,ifs,0⟩] scope pos) 0 it acc env) R s:=by
 subst hEr;refine codeAny_loop rfl I (λn s hI=> ?_) n h;show Jh _ A ((compTurn (.ListComp elt [⟨target,iter,ifs,0⟩] scope pos) 0 it acc env).onRaise (λx=>do noteFrame x env;theTreesLotGoes x)) _ _ s;refine wpAny_noted ?_;rw[compTurn_list];refine YA<|YF (YA<|YC (turn n s hI) (λr s₁ h₁=> ?_) λo0 o0 h'=>h')
 induction r with
 |none=>exact YB h₁
 |some v=>
  refine YA (YC h₁ (λo0 s₁' h₁'=> ?_) λo0 o0 h'=>h');refine YA<|YC h₁' (λo0 s₂ h₂=>YA<|YC h₂ (λok s₃ h₃=> ?_) λo0 o0 h'=>h') λo0 o0 h'=>h'
  induction ok with
  |false=>exact YB ⟨rfl,h₃⟩
  |true=>
   exact YA<|YA (YC h₃ (λx s₄ h₄=>YA<|YC h₄ (λo0 s₅ h₅=>YB<|YB ⟨rfl,h₅⟩) λo0 o0 h'=>h') λo0 o0 h'=>h')
theorem l7{h S:Ji}{D:Jg}(st:Step none1 σ h σ' S)(g:h.get? D=Ja (lstO v n))(E:σ D=Jb):S.get? D=Ja (lstO v n)/\σ' D=Jb:=by
 obtain⟨a,o,b,c⟩:=st.keep D _ g E;rw[(c λf=>f.elim).eq (by simp)] at b;exact⟨b,a⟩
theorem vN(h:i<n):n-(i+1)+1<n-i+1:=Yp<|Nat.sub_succ_lt_self n i h
structure CompAt(C:Cx)(St:Nat->PH->Ji->Prop)(cenv:Js)(ρb:Rho)(go:List PV->List PV->PH->Prop)(xs:List PV)(σ:PH)(s₀:Je)(D:Jg)(i:Nat)(acc:List PV)(σ':PH)(av:Array Jf)(nn:Nat)(s':Je):Prop where
 le:i<=xs.length
 ai:acc.length<=i
 st:St i σ' s'.heap
 m:Sim C σ' s'.heap
 ev:EnvR C cenv ρb σ' s'.heap
 step:Step none1 σ s₀.heap σ' s'.heap
 rest:Rest s₀ s'
 hD:s'.heap.get? D=Ja (lstO av nn)
 nD:σ' D=Jb
 hacc:VRs C σ' s'.heap acc av.toList
 go:go (xs.drop i) acc σ'
theorem sF{I D:Jg}{St:Nat->PH->Ji->Prop}{xs:List PV}{chk:PH->Prop}{H:Js}{tg:Tg}
  {tst:Rho->PH->(Bool->PH->Prop)->Prop}{el:Rho->PH->Post->Prop}{B:List PV->PH->Prop}{s₀:Je}
  (S:Src C A t I fp xs chk St)(ht:mTg sc tg t=Jc)(own:∀x∈tg.names,H.kindOf (Qb x)=Ja .local\/H.kindOf (Qb x)=Ja .cell)
  (aa:∀c,slot H tg.names c->s₀.heap.get? c=Jb)(a0:∀b∈fp,s₀.heap.get? b=Jb)(DF:s₀.heap.get? D=Jb)(DB:C.B.get? D=Jb)
  (ae:H.locals∉fp)(an:∀x c,H.cells.lookup x=Ja c->c∉fp)(ac:D∉fp)(ak:AOK C n A l σ s₀.heap)(T:xs.length<=lim)
  (a7:∀ρ' σ' s' Kb,EnvR C H ρ' σ' s'.heap->Sim C σ' s'.heap->AOK C n A l σ' s'.heap->tst ρ' σ' Kb->∀ab,Jh (Mo C) A (tests aq H) (λok aj=>∃F,A4 (Sim C F aj.heap) (Step none1 σ' s'.heap F aj.heap) (Rest s' aj)<|Kb ok F) ab s')
  (bg:∀ρ' σ' s' Q,EnvR C H ρ' σ' s'.heap->Sim C σ' s'.heap->AOK C n A l σ' s'.heap->el ρ' σ' Q->∀ab,Jh (Mo C) A (Jx ax H) (VP C none1 σ' s' Q) ab s')
  (hR:∀a X z d L,Sim C X z.heap->Step none1 σ s₀.heap X z.heap->Rest s₀ z->z.heap.get? D=Ja (lstO d L)->VRs C X z.heap a d.toList->X D=Jb->(∃m,z.heap.Ns H.locals m)->X H.locals=Jb->B a X->R (.ok .next) z)(O:St 0 σ1 s.heap)(m:Sim C σ1 s.heap)(ev:EnvR C H (blank tg ρ) σ1 s.heap)(st:Step none1 σ s₀.heap σ1 s.heap)(r:Rest s₀ s)(hD:s.heap.get? D=Ja (lstO #[] 0))(Y:σ1 D=Jb)
  (h:gv chk tg ρ tst el xs [] σ1 B):
  codeAny (Mo C) A (.compLoop (.ListComp ax [⟨t,iter,aq,0⟩] scope pos) 0 (.ref I) (.ref D) H) R s:=by
 refine nB rfl (λk s'=>X5 λi a σ' d L=>k=xs.length-i+1/\CompAt C St H (blank tg ρ) (λxs a σ=>gv chk tg ρ tst el xs a σ B) xs σ s₀ D i a σ' d L s') ?_ _
  ⟨0,[],σ1,#[],0,rfl,⟨QY _,QY _,O,m,ev,st,r,hD,Y,rfl,h⟩⟩
 clear O m ev st r hD Y h;intro k s' hI;obtain⟨i,a,σ',d,L,rfl,I⟩:=hI;have h:=I.go;have ap:=I.ai;have O:=I.st;have m:=I.m;have ev:=I.ev;have st:=I.step;have r:=I.rest;have hD:=I.hD;have Y:=I.nD;have j:=I.hacc;have hi:=I.le;clear I;by_cases N:i<xs.length
 ·have hx:xs[i]? =Ja xs[i]:=Qf N;rw[List.drop_eq_getElem_cons N] at h;obtain⟨a6,h⟩:=h;obtain⟨ρ',hb,h⟩:=p5 h;refine S.item hx m a6 O λv s1 a9=> ?_;refine a9 _ _ λz hv m2 G ay r2=> ?_;have fo:=S.fok O
  ·have bi:=ev.mv G fo ae an;have az:=G D _ ac hD;have am:=j.mv G fo;have a8:=st.mv G a0;refine iN (ak.hd.step a8) ht bi m2 own hv hb λs3 P a1 r3=> ?_;have ar:¬slot H tg.names D:=λq=>by
    obtain⟨o0,o0⟩:=P.has D q;exact absurd ⟨d,L,rfl⟩<|(P.has D q).1 _ az
   have aw:∀b∈fp,¬slot H tg.names b:=λb hb=>by
    rintro ⟨x,o0,q|q⟩
    ·exact ae<|q.2▸hb
    ·exact an _ _ q.2 hb
   have bb:=P.mv D _ ar az;have ad:=am.mv P.mv P.fok;have au:=a8.mv P.mv aa;have a5:=S.mv ay P.mv P.fok aw;have weak:∀ {u h4},EnvR C H ρ' u h4->EnvR C H (blank tg ρ) u h4:=λx=>x.weak λy q e=>sv hb e;refine YC (a7 ρ' σ' s3 _ a1 P.sim (ak.step au) h _) (λok s4 h4=> ?_) λo0 o0 x=>x;obtain⟨u,m4,V,r4,h⟩:=h4;have E:=S.step a5 V (λo0 o0 f=>f);obtain⟨a4,U⟩:=l7 V bb Y;have ah:=a1.step V;have M:=ad.step V;have ai:=au.trans V
   induction ok with
   |false=>
    exact⟨xs.length-(i+1)+1,vN N,i+1,a,u,d,L,rfl,⟨N,Yk ap,E,m4,weak ah,ai,((r.trans r2).trans r3).trans r4,a4,U,M,h⟩⟩
   |true=>
    refine YC (bg ρ' u s4 _ ah m4 (ak.step ai) h _) (λy s5 h5=> ?_) λo0 o0 x=>x;obtain⟨p,W,bc,m5,J,r5,h⟩:=h5;have a2:=S.step E J (λo0 o0 f=>f);obtain⟨w,K⟩:=l7 J a4 U;have af:=ah.step J;have ao:=M.step J;have bh:=ai.trans J;have be:d.size=a.length:=by simpa using j.length
    refine wpAny_list_append_plain ⟨L,w⟩ (λh6 al bf=> ?_) (by rw[be];simp only[lim] at T;exact QD (QD ap<|KW N)<|QD T (by decide));obtain⟨n6,al⟩:=al;have g:Mv (· =D) s5.heap h6:=λc o f e=>bf.extBut c o f e;have Z:Fok C W s5.heap (· =D):=λc f=>by
     have f:c=D:=f;subst f;exact⟨DB,.inl ⟨K,gF w<|by simp⟩⟩
    have m6:Sim C W h6:=m5.mv g Z λc f q=>by
     have f:c=D:=f;subst f;exact ns<|K.symm.trans q
    have bd:EnvR C H ρ' W h6:=af.mv g Z (λq=>by
      obtain⟨o0,⟨o,es,ep,e,hd,o0⟩,o0⟩:=af.ns;have q:H.locals=D:=q;rw[q,w] at e;obtain rfl:=sj e;cases hd) λy c hc q=>by
       have q:c=D:=q;subst q;obtain⟨o0,v1,o1,q1,q2⟩:=af.newC y _ hc;obtain rfl:=sj<|w.symm.trans q1;cases q2
    refine⟨xs.length-(i+1)+1,vN N,i+1,a++[p],W,d.push y,n6,rfl,⟨N,by rw[QJ];exact KP ap,S.mv a2 g Z (λb hb q=>ac (by rw[<-(q:b=D)];exact hb)),m6,weak bd,
     bh.mv g (λc f=>by have f:c=D:=f;subst f;exact DF),(((r.trans r2).trans r3).trans r4).trans r5,al,K,?_,h⟩⟩
    rw[Array.toList_push];exact(ao.append<|by exact⟨y,[],rfl,bc,rfl⟩).mv g Z
 ·have ba:i=xs.length:=Nat.le_antisymm hi<|Kd.mp N;subst ba;rw[List.drop_length] at h;refine S.done (ak.hd.step st) m h.1 O λz m2 G r2=> ?_;have fo:=S.fok O;refine hR a σ' z d L m2 (st.mv G a0) (r.trans r2) (G D _ ac hD) (j.mv G fo) Y ?_ ev.newL h.2;obtain⟨mm,hn,o0⟩:=(ev.mv G fo ae an).ns;exact⟨mm,hn⟩
end
def jw(C:Cx)(A:Jj)(env:Js)(t iter:Jl)(σ:PH)(s:Je)(K:List PV->(PH->Prop)->PH->Prop)(Er:Jf->Je->Prop):Prop:=
 ∀R:Jf->Je->Prop,(∀I f S m W P c,Src C A t I f P c S->S 0 m W.heap->Sim C m W.heap->Step none1 σ s.heap m W.heap->Rest s W->
  (∀b∈f,s.heap.get? b=Jb/\b<W.heap.objs.size)->P.length<=lim->K P c m->R (.ref I) W)->
  Jh (Mo C) A (Jx iter env) (λx k=>Jh (Mo C) A (YT x) R Er k) Er s
section
variable{C:Cx}{σ:PH}{h:Ji}{D:Jg}{po:PO}
mutual
theorem VR.adopt(nt:∀vs n,h.get? D≠Ja (tupO vs n)):∀ (p:PV) (v:Jf),VR C σ h p v->VR C (σ.set D po) h p v
 | .none=>λo0 e=>e
 | .bool _=>λo0 e=>e
 | .int _=>λo0 e=>e
 | .str _=>λo0 e=>e
 | .ref _=>λo0 e=>e
 | .scr _=>λo0 e=>e
 | .tup l=>λv e=>by
  obtain⟨a,n,vs,T,es,w,V⟩:=e;refine⟨a,n,vs,T,?_,w,VRs.adopt nt l _ V⟩;rw[PH.set_ne]
  ·exact es
  ·rintro rfl;exact nt vs n w
theorem VRs.adopt(nt:∀vs n,h.get? D≠Ja (tupO vs n)):∀ (l:List PV) (vs:List Jf),VRs C σ h l vs->VRs C (σ.set D po) h l vs
 |[]=>λo0 e=>e
 |p::ps=>λvs e=>by
  obtain⟨v,r,T,w,X⟩:=e;exact⟨v,r,T,VR.adopt nt p v w,VRs.adopt nt ps r X⟩
end
theorem OR.adopt(E:σ D=Jb)(nt:∀vs n,h.get? D≠Ja (tupO vs n)):∀ (p:PO) (o:Jp),OR C σ h p o->OR C (σ.set D po) h p o:=λp o r=>by
 have a:∀ {x:Jg} {q:PO},σ x=Ja q->(σ.set D po) x=Ja q:=λw=>(PH.set_ne _ _ λz=>ns<|E.symm.trans (z▸w)).trans w
 induction p with
 |list l=>obtain⟨vs,n,F,X⟩:=r;exact⟨vs,n,F,VRs.adopt nt _ _ X⟩
 |exc=>obtain⟨k,vs,T,F,X,I,V,Y⟩:=r;exact⟨k,vs,T,F,X,I,V,λx q=>(Y x q).imp λR w=>a w⟩
 |hid=>exact r
 |dict=>
  obtain⟨U,H,P,x,d,e,k,nd,L,v⟩:=r;refine⟨U,H,P,x,d,e,k,nd,λy W=> ?_,VRs.adopt nt _ _ v⟩;obtain⟨n,vs,m,g,i⟩:=L y W;exact⟨(PH.set_ne _ _ λz=>by rw[z] at g;exact nt vs m g).trans n,vs,m,g,i⟩
 |fd=>obtain⟨U,H,e,k,v,z⟩:=r;exact⟨U,H,e,k,λi f p N Q=>(v i f p N Q).imp λu q=>⟨q.1,VR.adopt nt _ _ q.2⟩,z⟩
 |inst d=>obtain⟨k,T,F,X,I,V⟩:=r;exact⟨k,T,F,X,I,V.imp λR w=>a w⟩
theorem Sim.adopt(m:Sim C σ h)(E:σ D=Jb)(nt:∀vs n,h.get? D≠Ja (tupO vs n))(e:h.get? D=Ja W)(b:C.B.get? D=Jb)(r:OR C σ h po W)(T:po.needs C.ok D:=by trivial):Sim C (σ.set D po) h where
 rich:=λx o g=>by
  by_cases q:x=D
  ·subst q;rw[PH.set_same] at g;obtain rfl:=sj g;exact T
  ·rw[PH.set_ne _ _ q] at g;exact m.rich x o g
 base:=m.base
 new:=λx o g=>by
  by_cases q:x=D
  ·subst q;exact b
  ·rw[PH.set_ne _ _ q] at g;exact m.new x o g
 objs:=λx o g=>by
  by_cases q:x=D
  ·subst q;rw[PH.set_same] at g;obtain rfl:=sj g;exact⟨W,e,r.adopt E nt⟩
  ·rw[PH.set_ne _ _ q] at g;obtain⟨P,N,p⟩:=m.objs x o g;exact⟨P,N,p.adopt E nt⟩
end
theorem mq{sc:Jk}(h:isOwn sc y=Jc):sc.names.lookup y=Ja .local\/sc.names.lookup y=Ja .cell:=by
 simpa [isOwn,WW] using h
theorem lD{sc:Jk}:∀ {xs:List String} {es:List Jl},eC sc xs es=Jc->∀x∈xs,sc.names.lookup (Qb x)=Ja .local\/sc.names.lookup (Qb x)=Ja .cell
 |[],[]=>λo0 x hx=>by cases hx
 |[],_::_=>λhm o0 o0=>by exact ft hm
 |x::xs,[]=>λhm o0 o0=>by exact ft hm
 |x::xs,e::es=>λhm y hy=>by
  induction e using Expr.casesOn with
  |Name z pos=>
   obtain⟨rfl,h1,h2⟩:=qj hm
   rcases Qx.mp hy with rfl|hy
   ·exact mq h1
   ·exact lD h2 y hy
  |_=>first|exact bnx hm|exact onx hm|cases hm
theorem rR{sc:Jk}{tg:Tg}(h:mTg sc tg t=Jc):∀x∈tg.names,sc.names.lookup (Qb x)=Ja .local\/sc.names.lookup (Qb x)=Ja .cell:=by
 induction tg with
 |name x=>
  induction t using Expr.casesOn with
  |Name y pos=>
   obtain⟨rfl,h1⟩:=vg h;intro z hz;simp only[Tg.names,Qk] at hz;subst hz;exact mq h1
  |_=>first|exact bnx h|exact onx h|cases h
 |tup xs=>
  induction t using Expr.casesOn with
  |Tuple es a b=>exact lD (show eC sc xs es=Jc from h)
  |_=>first|exact bnx h|exact onx h|cases h
section
variable{C:Cx}{A:Jj}{s:Je}
theorem rQ
  {tst:Rho->PH->(Bool->PH->Prop)->Prop}{el:Rho->PH->Post->Prop}{use:Option (Jf->Sem Unit)}{Q' Er:Jf->Je->Prop}
  (ev:EnvR C env ρ σ s.heap)(ak:AOK C n A l σ s.heap)(sr:ScR sc env)(ok:eY sc scope=Jc)(ow:ownOk tg scope=Jc)(ht:mTg scope tg t=Jc)
  (hs:∀x,JU iter env x=pure x)
  (ao:jw C A env t iter σ s (λxs chk σ1=>gv chk tg ρ tst el xs [] σ1 λa X=>wnew (.list a) X Q) Er)
  (ai:∀H,ScR scope H->∀ρ' σ' s' Kb,EnvR C H ρ' σ' s'.heap->Sim C σ' s'.heap->AOK C n A l σ' s'.heap->tst ρ' σ' Kb->∀E,Jh (Mo C) A (tests K H) (λok N=>∃j,A4 (Sim C j N.heap) (Step none1 σ' s'.heap j N.heap) (Rest s' N)<|Kb ok j) E s')
  (aw:∀H,ScR scope H->∀ρ' σ' s' Q,EnvR C H ρ' σ' s'.heap->Sim C σ' s'.heap->AOK C n A l σ' s'.heap->el ρ' σ' Q->∀E,Jh (Mo C) A (Jx ad H) (VP C none1 σ' s' Q) E s')
  (aa:∀D σ3 s3 L,Sim C σ3 s3.heap->Step none1 σ s.heap σ3 s3.heap->Rest s s3->s.heap.get? L=Jb->σ3 L=Jb->C.B.get? L=Jb->(∃m,s3.heap.Ns L m)->Q (.ref D) σ3->compPost (Mo C) A Er use Q' (.ref D) L (.ok .next) s3):
  Jh (Mo C) A (comprehension (.ListComp ad [⟨t,iter,K,0⟩] scope pos) scope env aj (newList []) Jd (Jx iter env) use) Q' Er s:=by
 obtain⟨k1,k2,k3⟩:=kW ok;have am:∀n,(n,NameKind.free)∈scope.names->env.kindOf n=Ja .cell\/env.kindOf n=Ja .free:=λn Z=>(k2 n Z).elim (λq=> .inl (sr.cell n q)) (sr.free n);obtain⟨cl,c0,c1,c2⟩:=lS (env:=env) (scope:=scope) λn Z=>ev.hasC n<|am n Z;refine wpAny_comprehension_free (g:=⟨t,iter,K,0⟩) (gs:=[]) rfl hs c0 k1 (λx hx hl=>by have:=k3 x.1 x.2 hx;rw[hl] at this;exact this) ?_;refine ao _ λI fp St σ1 W xs chk S ax M P r1 p ac ap=> ?_;refine JC ?_;refine qq ?_;generalize U:({W with heap:=W.heap.push {cls:= .type "list",dict:=Jb,data:= .seq ([]:List Jf).toArray}}:Je)=s2;have F:s2.heap=W.heap.push (lstO #[] 0):=by rw[<-U]
 have r:Rest W s2:=by rw[<-U];exact⟨rfl,rfl⟩
 have Y:∀b o,W.heap.get? b=Ja o->s2.heap.get? b=Ja o:=λb o e=>by rw[F];exact Qm _ e
 have m2:Sim C σ1 s2.heap:=M.more Y;have d:Step none1 σ s.heap σ1 s2.heap:=P.trans<|.more Y;have z:s2.heap.objs.size=W.heap.objs.size+1:=by rw[F,Kh]
 obtain⟨G,k,T,q1,q2,q3,q4,q5⟩:=uK (s:=s2) (tg:=tg) (ev.step d) m2 sr ok ow c1 c2 rfl rfl;generalize az:({compE scope cl s2.heap.objs.size env with scope:=relabel scope env}:Js)=H at G T q1 q2 q3 q4 q5 ⊢;generalize ay:Ua (s2.heap.push {cls:= .type "dict",data:= .dict #[]}) scope.names=h3 at G k ⊢;have ae:ScR scope H:=⟨q1,λy h=>(q2 y h).1,q4,λy h=>q3 y _ h<|by simp⟩
 have an:Step none1 σ s.heap σ1 h3:=d.trans<|.more k;have m3:Sim C σ1 h3:=m2.more k;have O:St 0 σ1 h3:=S.step (S:=none1) ax (.more λb o e=>k b o<|Y b o e) (λo0 o0 f=>f);have e1:W.heap.get? W.heap.objs.size=Jb:=gL _<|QA _;have e2:∀c,s2.heap.objs.size<=c->s.heap.get? c=Jb:=λc hc=>d.old m2<|gL _ hc;have af:s2.heap.get? W.heap.objs.size=Ja (lstO #[] 0):=by rw[F];exact QG _ rfl
 have own:∀x∈tg.names,scope.names.lookup (Qb x)=Ja .local\/scope.names.lookup (Qb x)=Ja .cell:=rR ht;have V:=λ(s':Je) (B:s'={s2 with heap:=h3})=>sF (s:=s') (scope:=scope) (iter:=iter) (pos:=pos) (R:=compPost (Mo C) A Er use Q' (.ref W.heap.objs.size) H.locals) (s₀:=s) S ht
  (λx hx=>(own x hx).imp (q1 _) λh=>(q2 _ h).1)
  (λc hc=>by
   obtain⟨x,hx,w|w⟩:=hc
   ·rw[w.2,T];exact e2 _<|QA _
   ·rcases own x hx with h|h
    ·rw[q1 _ h] at w;cases w.1
    ·exact e2 _ ((q2 _ h).2 c w.2))
  (λb hb=>(p b hb).1) (P.old M e1) (M.freshB<|QA _)
  (λJ=>by rw[T] at J;exact absurd (p _ J).2 (Kd.mpr<|by rw[z];exact WG _))
  (λx c hc J=>by
   rcases q5 x c hc with w|w
   ·exact absurd (p c J).2 (Kd.mpr<|QD (by rw[z];exact WG _) w)
   ·obtain⟨o0,v,o,e,o0⟩:=ev.newC x c w;exact ns (((p c J).1).symm.trans e))
  (λJ=>absurd (p _ J).2 (KG _)) ak ac (ai H ae) (aw H ae)
  (λa X s4 av nn m4 au r4 ah al u z' ab hq=>by
   obtain⟨mm,Z⟩:=z';have aq:H.locals≠W.heap.objs.size:=by rw[T,z];exact Nat.succ_ne_self _
   have nt:=gF ah (by simp);refine aa W.heap.objs.size (X.set W.heap.objs.size<|.list a) s4 H.locals ?_ (au.add _ (P.old M e1) ?_) r4 (by rw[T];exact e2 _<|QA _) (by rw[PH.set_ne _ _ aq];exact ab) (by rw[T];exact m2.freshB<|QA _) ⟨mm,Z⟩<|hq _ u
   ·exact m4.adopt u nt ah (M.freshB<|QA _) ⟨av,nn,rfl,al⟩
   ·induction w:σ W.heap.objs.size with
    |none=>rfl
    |some o=>obtain⟨o',w'⟩:=P.grow _ o w;exact ns ((M.fresh (QA _)).symm.trans w'))
  (σ1:=σ1) (by rw[B];exact O) (by rw[B];exact m3) (by rw[B];exact G) (by rw[B];exact an) (by rw[B];exact r1.trans r) (by rw[B];exact k _ _ af) (M.fresh<|QA _) ap
 have ar:(compE scope cl s2.heap.objs.size env).locals=H.locals:=by rw[T];rfl
 rw[ar];exact codeAny_compStart_list (V _ rfl)<|S.self (σ:=σ1) (i:=0) O (V _ rfl)
theorem nZ
  {tst:Rho->PH->(Bool->PH->Prop)->Prop}{el:Rho->PH->Post->Prop}
  (J:EnvR C env T σ s.heap)(k:AOK C n A l σ s.heap)(R:ScR sc env)(ok:eY sc scope=Jc)(Z:ownOk tg scope=Jc)(H:mTg scope tg t=Jc)
  (U:∀x,JU iter env x=pure x)
  (w:jw C A env t iter σ s (λxs chk σ1=>gv chk tg T tst el xs [] σ1 λa r=>wnew (.list a) r Q) (XP C none1 σ s X))
  (P:∀v,ScR scope v->∀ρ' σ' s' K,EnvR C v ρ' σ' s'.heap->Sim C σ' s'.heap->AOK C n A l σ' s'.heap->tst ρ' σ' K->∀E,Jh (Mo C) A (tests i v) (λok W=>∃j,A4 (Sim C j W.heap) (Step none1 σ' s'.heap j W.heap) (Rest s' W)<|K ok j) E s')
  (O:∀v,ScR scope v->∀ρ' σ' s' Q,EnvR C v ρ' σ' s'.heap->Sim C σ' s'.heap->AOK C n A l σ' s'.heap->el ρ' σ' Q->∀E,Jh (Mo C) A (Jx g v) (VP C none1 σ' s' Q) E s'):
  EOK C A σ s (Jx (.ListComp g [⟨t,iter,i,0⟩] scope pos) env) Q X:=by
 show Jh _ _ _ _ _ _;rw[eval_ListComp];refine rQ (use:=Jb) J k R ok Z H U w P O λD p u L m y I N Y G V z=> ?_;obtain⟨M,b⟩:=V;refine⟨M,b,λS B=> ?_⟩;have mv:Mv (· =L) u.heap S:=λc o f e=>B.extBut c o f e;obtain⟨o,es,ep,ho,d,o0⟩:=b;have F:Fok C p u.heap (· =L):=λc f=>by
  have f:c=L:=f;subst f;exact⟨G,.inl ⟨Y,gC ho<|cG d⟩⟩
 refine⟨.ref D,p,rfl,m.mv mv F (λc f q=>by have f:c=L:=f;subst f;exact ns<|Y.symm.trans q),y.mv mv (λc f=>by have f:c=L:=f;subst f;exact N),I,z⟩
end
noncomputable def tX(x:Jl):Nat->Prop
 |0=>X3 λc k p=>x= .Constant c k p
 |1=>∃y p,x= .Name y p
 |2=>X4 λl o r p=>x= .BinOp l o r p
 |3=>X3 λo y p=>x= .UnaryOp o y p
 |4=>X3 λo s p=>x= .BoolOp o s p
 |5=>X4 λl Q F p=>x= .Compare l Q F p
 |7=>X3 λU k p=>x= .Tuple U k p
 |8=>∃U p,x= .List U p
 |10=>X3 λu v p=>x= .Subscript u v p
 |11=>X4 λe g sc p=>x= .ListComp e g sc p
 |12=>X4 λf as w p=>x= .Call f as w p
 |13=>X3 λy z p=>x= .Attribute y z p
 |14=>X4 λV h t p=>x= .Slice V h t p
 |15=>X3 λi s p=>x= .Dict i s p
 |_=>True
theorem xinv(x:Jl):tX x (xk x):=by
 induction x using Expr.casesOn with
 |Constant c k p=>exact(⟨c,k,p,rfl⟩:X3 λc' k' p'=>Expr.Constant c k p= .Constant c' k' p')
 |Name y p=>exact(⟨y,p,rfl⟩:∃y' p',Expr.Name y p= .Name y' p')
 |BinOp l o r p=>exact(⟨l,o,r,p,rfl⟩:X4 λl' o' r' p'=>Expr.BinOp l o r p= .BinOp l' o' r' p')
 |UnaryOp o y p=>exact(⟨o,y,p,rfl⟩:X3 λo' y' p'=>Expr.UnaryOp o y p= .UnaryOp o' y' p')
 |BoolOp o vs p=>exact(⟨o,vs,p,rfl⟩:X3 λo' vs' p'=>Expr.BoolOp o vs p= .BoolOp o' vs' p')
 |Compare l os cs p=>exact(⟨l,os,cs,p,rfl⟩:X4 λl' os' cs' p'=>Expr.Compare l os cs p= .Compare l' os' cs' p')
 |Tuple es k p=>exact(⟨es,k,p,rfl⟩:X3 λes' k' p'=>Expr.Tuple es k p= .Tuple es' k' p')
 |List es p=>exact(⟨es,p,rfl⟩:∃es' p',Expr.List es p= .List es' p')
 |Subscript u v p=>exact(⟨u,v,p,rfl⟩:X3 λu' v' p'=>Expr.Subscript u v p= .Subscript u' v' p')
 |ListComp e gs sc p=>exact(⟨e,gs,sc,p,rfl⟩:X4 λe' gs' sc' p'=>Expr.ListComp e gs sc p= .ListComp e' gs' sc' p')
 |Call f as kw p=>exact(⟨f,as,kw,p,rfl⟩:X4 λf' as' kw' p'=>Expr.Call f as kw p= .Call f' as' kw' p')
 |Attribute y z p=>exact(⟨y,z,p,rfl⟩:X3 λy' z' p'=>Expr.Attribute y z p= .Attribute y' z' p')
 |Slice lo hi st p=>exact(⟨lo,hi,st,p,rfl⟩:X4 λlo' hi' st' p'=>Expr.Slice lo hi st p= .Slice lo' hi' st' p')
 |Dict ks vs p=>exact(⟨ks,vs,p,rfl⟩:X3 λks' vs' p'=>Expr.Dict ks vs p= .Dict ks' vs' p')
 |_=>exact True.intro
noncomputable def ul(x:Jo):Nat->Prop
 |0=>X3 λs v p=>x= .Assign s v p
 |1=>∃v p,x= .Expr v p
 |2=>∃v p,x= .Return v p
 |3=>X4 λu y z p=>x= .If u y z p
 |4=>X5 λt i y z p=>x= .For t i y z p
 |5=>X4 λt y z p=>x= .While t y z p
 |6=>X3 λv c p=>x= .Raise v c p
 |7=>X5 λy h z w p=>x= .Try y h z w p
 |_=>True
theorem sinv(x:Jo):ul x (sk x):=by
 induction x using Stmt.casesOn with
 |Assign ts v p=>exact(⟨ts,v,p,rfl⟩:X3 λts' v' p'=>Stmt.Assign ts v p= .Assign ts' v' p')
 |Expr v p=>exact(⟨v,p,rfl⟩:∃v' p',Stmt.Expr v p= .Expr v' p')
 |Return v p=>exact(⟨v,p,rfl⟩:∃v' p',Stmt.Return v p= .Return v' p')
 |If u y z p=>exact(⟨u,y,z,p,rfl⟩:X4 λu' y' z' p'=>Stmt.If u y z p= .If u' y' z' p')
 |For t i y z p=>exact(⟨t,i,y,z,p,rfl⟩:X5 λt' i' y' z' p'=>Stmt.For t i y z p= .For t' i' y' z' p')
 |While t y z p=>exact(⟨t,y,z,p,rfl⟩:X4 λt' y' z' p'=>Stmt.While t y z p= .While t' y' z' p')
 |Raise v c p=>exact(⟨v,c,p,rfl⟩:X3 λv' c' p'=>Stmt.Raise v c p= .Raise v' c' p')
 |Try y hs z w p=>exact(⟨y,hs,z,w,p,rfl⟩:X5 λy' hs' z' w' p'=>Stmt.Try y hs z w p= .Try y' hs' z' w' p')
 |_=>exact True.intro
theorem d8(h:(xk x==k&&b)=Jc):tX x k/\b=Jc:=by
 obtain⟨N,p⟩:=Qh.mp h;have:=xinv x;rw[beq_iff_eq.mp N] at this;exact⟨this,p⟩
theorem ku(h:(sk x==k&&b)=Jc):ul x k/\b=Jc:=by
 obtain⟨N,p⟩:=Qh.mp h;have:=sinv x;rw[beq_iff_eq.mp N] at this;exact⟨this,p⟩
theorem and2(h:(a&&b)=Jc):a=Jc/\b=Jc:=Qh.mp h
theorem and3(h:(a&&b&&c)=Jc):a=Jc/\b=Jc/\c=Jc:=⟨(and2 (and2 h).1).1,(and2 (and2 h).1).2,(and2 h).2⟩
theorem and4{a b c d:Bool}(h:(a&&b&&c&&d)=Jc):a=Jc/\b=Jc/\c=Jc/\d=Jc:=by obtain⟨N,p⟩:=and2 h;exact by obtain⟨J,w,B⟩:=and3 N;exact⟨J,w,B,p⟩
theorem and5{a b c d e:Bool}(h:(a&&b&&c&&d&&e)=Jc):a=Jc/\b=Jc/\c=Jc/\d=Jc/\e=Jc:=by obtain⟨N,p⟩:=and2 h;exact by obtain⟨J,w,B,W⟩:=and4 N;exact⟨J,w,B,W,p⟩
theorem and6{a b c d e f:Bool}(h:(a&&b&&c&&d&&e&&f)=Jc):a=Jc/\b=Jc/\c=Jc/\d=Jc/\e=Jc/\f=Jc:=by obtain⟨N,p⟩:=and2 h;exact by obtain⟨J,w,B,W,S⟩:=and5 N;exact⟨J,w,B,W,S,p⟩
theorem nmE(h:Vl.Internal.nm y x=Jc):y=Qb x:=beq_iff_eq.mp h
section
variable{sc:Jk}{x:Jl}{P:Jl->Prop}
theorem gV(h:hCst c x=Jc)(k:∀n p,P (.Constant c n p)):P x:=by
 obtain⟨⟨c,n,p,rfl⟩,h⟩:=d8 (k:=0) (b:=vP _ x) h;obtain rfl:=Uf h;exact k n p
theorem i5{f:Jq->Bool}(h:hName f y x=Jc)(k:∀p,f (Qb y)=Jc->bB (Qb y)=Jc->P (.Name (Qb y) p)):P x:=by
 obtain⟨⟨z,p,rfl⟩,h⟩:=d8 (k:=1) (b:=qName f y x) h;have h:=and3 h;obtain rfl:=nmE h.1;exact k p h.2.1 h.2.2
theorem Bc(h:hBin V f g x=Jc)(k:∀l o r p,mOp V o=Jc->f l=Jc->g r=Jc->P (.BinOp l o r p)):P x:=by
 obtain⟨⟨l,o,r,p,rfl⟩,h⟩:=d8 (k:=2) (b:=qBin V f g x) h;have h:=and3 h;exact k l o r p h.1 h.2.1 h.2.2
theorem BS(h:(xk x==3&&qUn u f x)=Jc)(k:∀y p,f y=Jc->P (.UnaryOp u y p)):P x:=by
 obtain⟨⟨o,y,p,rfl⟩,h⟩:=d8 h;have h:=and2 h;obtain rfl:=Uf h.1;exact k y p h.2
theorem s8(h:(xk x==4&&qBool u f g x)=Jc)(k:∀y z p,f y=Jc->g z=Jc->P (.BoolOp u [y,z] p))(A:∀y z w r p,f y=Jc->g (.BoolOp u (z::w::r) p)=Jc->P (.BoolOp u (y::z::w::r) p)):P x:=by
 obtain⟨⟨o,v,p,rfl⟩,h⟩:=d8 h
 rcases v with o0|⟨y,o0|⟨z,o0|⟨w,r⟩⟩⟩
 ·exact ft h
 ·exact ft h
 ·have h:=and2 h;obtain rfl:=Uf h.1;exact k y z p (and2 h.2).1 (and2 h.2).2
 ·have h:=and2 h;obtain rfl:=Uf h.1;exact A y z w r p (and2 h.2).1 (and2 h.2).2
theorem BC(h:(xk x==5&&qIs u f g x)=Jc)(k:∀l c p,f l=Jc->g c=Jc->P (.Compare l [u] [c] p)):P x:=by
 obtain⟨⟨l,s,F,p,rfl⟩,h⟩:=d8 h
 rcases s with o0|⟨o,o0|⟨o0,o0⟩⟩<;>rcases F with _|⟨c,_|⟨_,_⟩⟩<;>first|exact ft h|skip
 have h:=and2 h;obtain rfl:=Uf h.1;exact k l c p (and2 h.2).1 (and2 h.2).2
theorem f8(h:kz x=Jc):∀y p,x≠ .Starred y p:=by rintro y p rfl;exact ft h
theorem nt(h:(!b)=Jc):b=Jd:=(QQ _).mp h
theorem AR(h:hCmp V f g x=Jc)(k:∀l o r p,mC V o=Jc->f l=Jc->g r=Jc->JI o r=Jd->P (.Compare l [o] [r] p)):P x:=by
 obtain⟨⟨l,s,F,p,rfl⟩,h⟩:=d8 (k:=5) (b:=qCmp V f g x) h
 rcases s with o0|⟨o,o0|⟨o0,o0⟩⟩<;>rcases F with _|⟨c,_|⟨_,_⟩⟩<;>first|exact ft h|skip
 have h:=and4 h;exact k l o c p h.1 h.2.1 h.2.2.1<|nt h.2.2.2
theorem ze(h:hCmp2 v u f g e x=Jc)(k:∀l o U m r p,mC v o=Jc->mC u U=Jc->f l=Jc->g m=Jc->e r=Jc->JI U r=Jd->P (.Compare l [o,U] [m,r] p)):P x:=by
 obtain⟨⟨l,s,c,p,rfl⟩,h⟩:=d8 (k:=5) (b:=qCmp2 v u f g e x) h
 rcases s with o0|⟨o,o0|⟨U,o0|⟨o0,o0⟩⟩⟩<;>first|exact ft h|skip
 rcases c with o0|⟨m,o0|⟨r,o0|⟨o0,o0⟩⟩⟩<;>first|exact ft h|skip
 have h:=and6 h;exact k l o U m r p h.1 h.2.1 h.2.2.1 h.2.2.2.1 h.2.2.2.2.1<|nt h.2.2.2.2.2
theorem A2{f:List Jl->Bool}(h:hTup f x=Jc)(k:∀es n p,f es=Jc->es.length<=100->P (.Tuple es n p)):P x:=by
 obtain⟨⟨es,n,p,rfl⟩,h⟩:=d8 (k:=7) (b:=qTup f x) h;exact k es n p (and2 h).1 (Uf (and2 h).2)
theorem uZ{f:List Jl->Bool}(h:hList f x=Jc)(k:∀es p,f es=Jc->es.length<=100->P (.List es p)):P x:=by
 obtain⟨⟨es,p,rfl⟩,h⟩:=d8 (k:=8) (b:=qList f x) h;exact k es p (and2 h).1 (Uf (and2 h).2)
theorem rE(h:hSub f g x=Jc)(k:∀u v p,f u=Jc->g v=Jc->P (.Subscript u v p)):P x:=by
 obtain⟨⟨u,v,p,rfl⟩,h⟩:=d8 (k:=10) (b:=qSub f g x) h;exact k u v p (and2 h).1 (and2 h).2
theorem BR(h:hTo g x=Jc)(k:∀w q,g w=Jc->P (.Slice Jb (Ja w) Jb q)):P x:=by
 obtain⟨⟨l,i,s,q,rfl⟩,h⟩:=d8 (k:=14) (b:=qTo g x) h
 rcases l with o0|o0<;>rcases i with _|w<;>rcases s with _|_<;>first|exact ft h|exact k w q h
theorem BW(h:hFr g x=Jc)(k:∀w q,g w=Jc->P (.Slice (Ja w) Jb Jb q)):P x:=by
 obtain⟨⟨l,i,s,q,rfl⟩,h⟩:=d8 (k:=14) (b:=qFrom g x) h
 rcases l with o0|w<;>rcases i with _|_<;>rcases s with _|_<;>first|exact ft h|exact k w q h
theorem t2{g:Jk->XB}(h:hComp sc tg f g x=Jc)(k:∀e t i s p,f i=Jc->mTg s tg t=Jc->g s e=Jc->eY sc s=Jc->ownOk tg s=Jc->P (.ListComp e [⟨t,i,[],0⟩] s p)):P x:=by
 obtain⟨⟨e,y,s,p,rfl⟩,h⟩:=d8 (k:=11) (b:=qComp sc tg f g x) h
 rcases y with o0|⟨⟨t,i,o0|⟨o0,o0⟩,a⟩,o0|⟨o0,o0⟩⟩<;>first|exact ft h|skip
 have h:=and2 h;obtain rfl:=Uf h.1;have h:=and5 h.2;exact k e t i s p h.1 h.2.1 h.2.2.1 h.2.2.2.1 h.2.2.2.2
theorem pM{g c:Jk->XB}(h:rl sc tg f g c x=Jc)(k:∀e t i z s p,f i=Jc->mTg s tg t=Jc->g s e=Jc->c s z=Jc->eY sc s=Jc->ownOk tg s=Jc->P (.ListComp e [⟨t,i,[z],0⟩] s p)):P x:=by
 obtain⟨⟨e,y,s,p,rfl⟩,h⟩:=d8 (k:=11) (b:=rh sc tg f g c x) h
 rcases y with o0|⟨⟨t,i,o0|⟨z,o0|⟨o0,o0⟩⟩,a⟩,o0|⟨o0,o0⟩⟩<;>first|exact ft h|skip
 have h:=and2 h;obtain rfl:=Uf h.1;have h:=and6 h.2;exact k e t i z s p h.1 h.2.1 h.2.2.1 h.2.2.2.1 h.2.2.2.2.1 h.2.2.2.2.2
theorem tx{g:List Jl->Bool}(h:hCl f g x=Jc)(k:∀y as p,f y=Jc->g as=Jc->P (.Call y as [] p)):P x:=by
 obtain⟨⟨y,as,w,p,rfl⟩,h⟩:=d8 (k:=12) (b:=qCall f g x) h
 rcases w with o0|⟨o0,o0⟩
 ·exact k y as p (and2 h).1 (and2 h).2
 ·exact ft h
theorem uj{f:List Jl->Bool}(h:hCl (glb sc n) f x=Jc)(k:∀py as p,sc.names.lookup (Qb n)=Ja .globalImplicit->bB (Qb n)=Jc->f as=Jc->P (.Call (.Name (Qb n) py) as [] p)):P x:=
 tx h λy as p N Y=>by
  obtain⟨py,rfl,J,w⟩:=iG N;exact k py as p J w Y
theorem xW{g:Y8->Bool}(h:hAt a f g x=Jc)(k:∀y p,f y=Jc->ei y=Jc->g p=Jc->P (.Attribute y (Qb a) p)):P x:=by
 obtain⟨⟨y,z,p,rfl⟩,h⟩:=d8 (k:=13) (b:=qAttr a f g x) h;have h:=and4 h;obtain rfl:=nmE h.2.2.1;exact k y p h.1 h.2.1 h.2.2.2
theorem tH{g:List Jl->Bool}(h:hMc m f g x=Jc)(k:∀y as p q,f y=Jc->ei y=Jc->(p.endLine==q.line)=Jc->g as=Jc->P (.Call (.Attribute y (Qb m) p) as [] q)):P x:=by
 obtain⟨⟨u,as,w,q,rfl⟩,h⟩:=d8 (k:=12) (b:=qMeth (λq=>hAt m f λp=>p.endLine==q.line) g x) h
 rcases w with o0|⟨o0,o0⟩
 ·have h:=and2 h;exact xW (P:=λu=>P<|.Call u as [] q) h.1 λy p N Y J=>k y as p q N Y J h.2
 ·exact ft h
theorem ua{Q:List Jl->Prop}(h:two2 f g l=Jc)(k:∀x y,f x=Jc->g y=Jc->Q [x,y]):Q l:=by
 rcases l with o0|⟨x,o0|⟨y,o0|⟨o0,o0⟩⟩⟩<;>first|exact ft h|exact k x y (and2 h).1 (and2 h).2
theorem ya(h:hEmp x=Jc)(k:∀p,P (.List [] p)):P x:=
 uZ h λe p N o0=>by
  rcases e with o0|⟨o0,o0⟩
  ·exact k p
  ·exact ft N
theorem xG(h:uF x=Jc)(k:∀p,P (.Dict [] [] p)):P x:=by
 obtain⟨⟨s,v,p,rfl⟩,h⟩:=d8 (k:=15) (b:=uS x) h
 rcases s with o0|⟨o0,o0⟩<;>rcases v with _|⟨_,_⟩<;>first|exact ft h|exact k p
theorem AU{Q:List Jl->Prop}(h:one1 f l=Jc)(k:∀x,f x=Jc->Q [x]):Q l:=by
 rcases l with o0|⟨x,o0|⟨o0,o0⟩⟩<;>first|exact ft h|exact k x h
end
section
variable{sc:Jk}{x:Jo}{P:Jo->Prop}
theorem pJ(h:kAsg f g x=Jc)(k:∀t v pos,f t=Jc->g v=Jc->P (.Assign [t] v pos)):P x:=by
 obtain⟨⟨s,v,p,rfl⟩,h⟩:=ku (k:=0) (b:=rAsg f g x) h
 rcases s with o0|⟨t,o0|⟨o0,o0⟩⟩<;>first|exact ft h|exact k t v p (and2 h).1 (and2 h).2
theorem zR(h:kAsg (hOwn sc y) f x=Jc)(k:∀z v pos,mTg sc (.name y) (.Name (Qb y) z)=Jc->f v=Jc->P (.Assign [.Name (Qb y) z] v pos)):P x:=
 pJ h λt v pos N J=>i5 (P:=λt=>P<|.Assign [t] v pos) N λp w B=>k p v pos (by show(Vl.Internal.nm _ _&&isOwn sc _&&bB _)=Jc;rw[w,B,WA,WA];exact beq_self_eq_true _) J
theorem AM(h:kAsg (hTupT (eC sc xs)) f x=Jc)(k:∀es a b v pos,mTg sc (.tup xs) (.Tuple es a b)=Jc->f v=Jc->P (.Assign [.Tuple es a b] v pos)):P x:=
 pJ h λt v pos N J=>by
  obtain⟨⟨es,a,b,rfl⟩,N⟩:=d8 (k:=7) (b:=qTupT (eC sc xs) t) N;exact k es a b v pos N J
theorem zy(h:kExpr f x=Jc)(k:∀v pos,f v=Jc->P (.Expr v pos)):P x:=by
 obtain⟨⟨v,p,rfl⟩,h⟩:=ku (k:=1) (b:=rExpr f x) h;exact k v p h
theorem AP(h:kRet f x=Jc)(k:∀v pos,f v=Jc->P (.Return (Ja v) pos)):P x:=by
 obtain⟨⟨v,p,rfl⟩,h⟩:=ku (k:=2) (b:=rRet f x) h
 rcases v with o0|v
 ·exact ft h
 ·exact k v p h
theorem BY(h:kIf f g e x=Jc)(k:∀u y z pos,f u=Jc->g y=Jc->e z=Jc->P (.If u y z pos)):P x:=by
 obtain⟨⟨u,y,z,p,rfl⟩,h⟩:=ku (k:=3) (b:=rIf f g e x) h;have h:=and3 h;exact k u y z p h.1 h.2.1 h.2.2
theorem Bz(h:kFor f g e x=Jc)(k:∀t i y pos,f t=Jc->g i=Jc->e y=Jc->P (.For t i y [] pos)):P x:=by
 obtain⟨⟨t,i,y,z,p,rfl⟩,h⟩:=ku (k:=4) (b:=rFor f g e x) h
 rcases z with o0|⟨o0,o0⟩
 ·have h:=and3 h;exact k t i y p h.1 h.2.1 h.2.2
 ·exact ft h
theorem wm(h:tI f e x=Jc)(k:∀u y pos,f u=Jc->e y=Jc->P (.While u y [] pos)):P x:=by
 obtain⟨⟨u,y,z,p,rfl⟩,h⟩:=ku (k:=5) (b:=vo f e x) h
 rcases z with o0|⟨o0,o0⟩
 ·exact k u y p (and2 h).1 (and2 h).2
 ·exact ft h
theorem xf(h:tC f x=Jc)(k:∀v pos,f v=Jc->P (.Raise (Ja v) Jb pos)):P x:=by
 obtain⟨⟨v,c,pos,rfl⟩,h⟩:=ku (k:=6) (b:=tQ f x) h
 rcases v with o0|v<;>rcases c with _|_<;>first|exact ft h|exact k v pos h
theorem AC{c z:String}(h:kTry f (rH1 (rHd sc c z g)) x=Jc)(k:∀y t n R r p pos,f y=Jc->glb sc c t=Jc->jV sc z n=Jc->g (R::r)=Jc->P (.Try y [.ExceptHandler (Ja t) n (R::r) p] [] [] pos)):P x:=by
 obtain⟨⟨y,s,z,w,p,rfl⟩,h⟩:=ku (k:=7) (b:=rTry f (rH1<|rHd sc c z g) x) h
 rcases z with o0|⟨o0,o0⟩<;>rcases w with _|⟨_,_⟩<;>rcases s with _|⟨⟨t,n,b,q⟩,_|⟨_,_⟩⟩<;>first|exact ft h|exact ft (and2 h).2|skip
 have h:=and2 h
 rcases t with o0|t<;>rcases b with _|⟨R,r⟩<;>first|exact ft h.2|skip
 have Y:=and3 h.2;exact k y t n R r q p h.1 Y.1 Y.2.1 Y.2.2
end
section
set_option backward.match.sparseCases true
inductive BP(C:Cx)(σ:PH)(s:Je)(K:Bool->PH->Prop)(b:Bool)(s1:Je):Prop
 |mk (σ1:PH) (m:Sim C σ1 s1.heap) (st:Step none1 σ s.heap σ1 s1.heap) (r:Rest s s1) (k:K b σ1):BP C σ s K b s1
structure At(C:Cx)(n:Nat)(sc:Jk)(env:Js)(ρ:Rho)(A:Jj)(l:List Js)(σ:PH)(s:Je):Prop where
 sr:ScR sc env
 ev:EnvR C env ρ σ s.heap
 m:Sim C σ s.heap
 ak:AOK C n A l σ s.heap
theorem At.step{s W:Je}(I:At C n sc env L A l σ s)(st:Step none1 σ s.heap σ1 W.heap)(m:Sim C σ1 W.heap):At C n sc env L A l σ1 W:=⟨I.sr,I.ev.step st,m,I.ak.step st⟩
def EvOK(C:Cx)(G:Gx)(n:Nat)(sc:Jk)(e:E)(x:Jl):Prop:=∀ {F:Js} {L:Rho} {A:Jj} {l:List Js} {σ:PH} {s:Je} {Q:Post} {X:XPost},
 At C n sc F L A l σ s->we G (aO C n) e L σ Q X->EOK C A σ s (Jx x F) Q X
def TsOK(C:Cx)(G:Gx)(n:Nat)(sc:Jk)(e:E)(x:Jl):Prop:=∀ {F:Js} {L:Rho} {A:Jj} {l:List Js} {σ:PH} {s:Je} {K:Bool->PH->Prop} {X:XPost},
 At C n sc F L A l σ s->we G (aO C n) e L σ (λv m=>cU (λb=>K b m) v) X->Jh (Mo C) A (Ub x F<|eval x F) (BP C σ s K) (XP C none1 σ s X) s
noncomputable def Evs(C:Cx)(G:Gx)(n:Nat)(sc:Jk):List E->List Jl->Prop
 |[],P=>P=[]
 |e::U,P=>X2 λx r=>A4 (P=x::r) (kz x=Jc) (EvOK C G n sc e x)<|Evs C G n sc U r
section
variable{C:Cx}{G:Gx}{mg mb:Jq->Option Jf}{n:Nat}{A:Jj}{σ:PH}{s:Je}{X:XPost}
theorem EOK.seq{R:Jf->Je->Prop}{W:Je}(h:EOK C A σ1 W t Q' X)(st:Step none1 σ s.heap σ1 W.heap)(r:Rest s W)
  (k:∀v J p O,VR C O J.heap p v->Sim C O J.heap->Step none1 σ s.heap O J.heap->Step none1 σ1 W.heap O J.heap->Rest s J->Q' p O->R v J):Jh (Mo C) A t R (XP C none1 σ s X) W:=
 YC h (λv J M=>by obtain⟨p,O,a,b,c,d,e⟩:=M;exact k v J p O a b (st.trans c) c (r.trans d) e) λo0 o0 x=>XP.from st r x
theorem EOKs.seq{Q':List PV->PH->Prop}{R:List Jf->Je->Prop}{W:Je}(h:EOKs C A σ1 W t Q' X)(st:Step none1 σ s.heap σ1 W.heap)(r:Rest s W)
  (k:∀v J p O,VRs C O J.heap p v->Sim C O J.heap->Step none1 σ s.heap O J.heap->Step none1 σ1 W.heap O J.heap->Rest s J->Q' p O->R v J):Jh (Mo C) A t R (XP C none1 σ s X) W:=
 YC h (λv J M=>by obtain⟨p,O,a,b,c,d,e⟩:=M;exact k v J p O a b (st.trans c) c (r.trans d) e) λo0 o0 x=>XP.from st r x
theorem VP.to0{W:Je}{Er:Jf->Je->Prop}(st:Step none1 σ s.heap σ1 W.heap)(r:Rest s W)(h:Jh (Mo C) A t (VP C none1 σ1 W Q) (λo0 o0=>False) W):Jh (Mo C) A t (VP C none1 σ s Q) Er W:=
 YC h (λo0 o0 x=>VP.from st r x) λo0 o0 x=>x.elim
structure Todo(C:Cx)(G:Gx)(n:Nat):Prop where
 isi:C.ok->∀ {sc a y t ts py p},stat ts=Jd->sc.names.lookup (Qb "isinstance")=Ja .globalImplicit->bB (Qb "isinstance")=Jc->kz y=Jc->mType sc ts t=Jc->EvOK C G n sc a y->EvOK C G n sc (.isi a ts) (.Call (.Name (Qb "isinstance") py) [y,t] [] p)
 attr:∀ {sc x f q p},isLoc sc (Qb x)=Jc->bB (Qb x)=Jc->EvOK C G n sc (.attr x f) (.Attribute (.Name (Qb x) q) (Qb f) p)
 mcall:∀ {sc f o args y as p q},EvOK C G n sc o y->ei y=Jc->(p.endLine==q.line)=Jc->Evs C G n sc args as->as.length<=20->bZ f=Jd->EvOK C G n sc (.mcall f o args) (.Call (.Attribute y (Qb<|mOf f) p) as [] q)
theorem AOK.u100(a:AOK C n A l σ h):A.units+100<cLine:=by have:=a.units;exact zl (Kg (QV _ _)<|by decide) this
theorem dD{R:Bool->Je->Prop}{Er:Jf->Je->Prop}(h:R b s):Jh (Mo C) A (Jv (.bool b)) R Er s:=wpAny_truthy_bool h
theorem xo{K:Bool->Prop}(hv:VR C σ h p v)(w:cU K p):∃b,v= .bool b/\K b:=by
 obtain⟨b,rfl,w⟩:=lN w;exact⟨b,hv,w⟩
theorem wk{x:Jl}(hx:∀env,Ub x env (Jx x env)=(do let v<-Jx x env;standAt x.pos;holding [v] (Jv v)))(h:EvOK C G n sc e x):TsOK C G n sc e x:=by
 intro env ρ A l σ s K X I w;refine wpAny_isTrue_value (EOK.then (h I w) λv s1 p σ1 hv m1 st1 r1 q=> ?_)<|hx env;obtain⟨b,rfl,q⟩:=xo hv q;exact dD ⟨σ1,m1,st1,r1,q⟩
theorem VP.now(I:At C n sc env L A l σ s)(hv:VR C σ s.heap p v)(q:Q p σ):VP C none1 σ s Q v s:=VP.here I.m rfl ⟨rfl,rfl⟩ hv q
section
variable{sc:Jk}{a b c:E}{u v z:Jl}{p:Y8}{k:Nat}
theorem xp:EvOK C G n sc .none (.Constant .none k p):=λI w=>JL<|VP.now I mW w
theorem xU{b:Bool}:EvOK C G n sc (.bool b) (.Constant (.bool b) k p):=λI w=>wpAny_Constant_bool<|VP.now I fW w
theorem zQ{b:Int}:EvOK C G n sc (.int b) (.Constant (.int b) k p):=λI w=>wpAny_Constant_int<|VP.here I.m rfl ⟨rfl,rfl⟩ (ey _) w
theorem z7{b:String}:EvOK C G n sc (.str b) (.Constant (.str (Qb b)) k p):=λI w=>wpAny_Constant_str (VP.here (p:= .str b) I.m rfl ⟨rfl,rfl⟩ ⟨_,rfl⟩ w)
theorem j4{env:Js}(r:ScR sc env)(h:isLoc sc y=Jc):isLoc env.scope y=Jc:=by
 have:∀k,env.kindOf y=Ja k->(k= .local\/k= .cell\/k= .free)->isLoc env.scope y=Jc:=λk M Z=>by
  have M:env.scope.names.lookup y=Ja k:=M;unfold isLoc;rw[M];rcases Z with rfl|rfl|rfl<;>rfl
 rcases mj h with q|q|q
 ·exact this _ (r.loc y q)<|.inl rfl
 ·exact this _ (r.cell y q)<|.inr (.inl rfl)
 ·rcases r.free y q with q|q
  ·exact this _ q<|.inr (.inl rfl)
  ·exact this _ q<|.inr (.inr rfl)
theorem Aw{b:String}(h:isLoc sc (Qb b)=Jc)(Y:bB (Qb b)=Jc):EvOK C G n sc (.loc b) (.Name (Qb b) p):=λI w=>by
 obtain⟨v,e,w⟩:=jP w;exact k7 I.ev (j4 I.sr h) Y e λK hv=>VP.now I hv w
theorem xt(g:GOK C G mg mb){b:String}(h:nH sc (Qb b)=Jc)(Y:bB (Qb b)=Jc):EvOK C G n sc (.glob b) (.Name (Qb b) p):=λI w=>by
 obtain⟨v,e,w⟩:=jP w;obtain⟨K,T,F⟩:=g.glob b v e;exact iO g I.ev I.m (I.sr.glob _<|eq_of_beq h) Y T<|VP.now I (F _ _) w
theorem zf(N:mOp e o=Jc)(T:EvOK C G n sc a u)(R:EvOK C G n sc b v):EvOK C G n sc (.bin e a b) (.BinOp u o v p):=λI w=>
 wpAny_BinOp (EOK.then (T I w) λW q M j K B P f w=>
  EOK.seq (R (I.step P B) w) P f λH J U O h m V t r w=>VP.to0 V r (zI N m (K.step t) h w))
theorem Ab(T:EvOK C G n sc a u):EvOK C G n sc (.not_ a) (.UnaryOp .Not u p):=λI w=>
 wpAny_UnaryOp (EOK.then (T I w) λf W o m h e t r w=>by
  obtain⟨b,rfl,w⟩:=xo h w;exact VP.to0 t r (not_value (dD (VP.here e rfl ⟨rfl,rfl⟩ fW w))))
theorem v7(h:TsOK C G n sc a u):TsOK C G n sc (.not_ a) (.UnaryOp .Not u p):=λ{F L A l σ s K X} I w=>
 wpAny_isTrue_Not (YC (h (K:=λb m=>K (!b) m) I w) (λb W x=>by obtain⟨a,b,c,d,e⟩:=x;exact⟨a,b,c,d,e⟩) λo0 o0 x=>x)
theorem tW{x y z:Jl}{Q Er:Jf->Je->Prop}
  (h:Jh (Mo C) A (Jx x env) (λv s₁=>Jh (Mo C) A (Jv v) (λt s₂=>if t then Jh (Mo C) A (Jx (.BoolOp .And (y::z::r) pos) env) Q Er s₂ else Q v s₂) Er s₁) Er s):
  Jh (Mo C) A (Jx (.BoolOp .And (x::y::z::r) pos) env) Q Er s:=by
 show Jh (Mo C) A (do
  let v<-Jx x env
  standAt pos
  let t<-holding [v] (Jv v)
  match BoolOp.And,t with
  | .And,Jd| .Or,Jc=>pure v
  |_,_=>boolOp pos .And (Jx y env::Jx z env::evalEach r env)) Q Er s
 refine YA<|YC h (λv s₁ h₁=>YA<|YF (YA<|YE (YC h₁ (λt s₂ h₂=> ?_) λo0 o0 x=>x))) λo0 o0 x=>x
 induction t with
 |false=>exact YB h₂
 |true=>exact h₂
theorem wo{x y z:Jl}{Q Er:Jf->Je->Prop}
  (h:Jh (Mo C) A (Jx x env) (λv s₁=>Jh (Mo C) A (Jv v) (λt s₂=>if t then Q v s₂ else Jh (Mo C) A (Jx (.BoolOp .Or (y::z::r) pos) env) Q Er s₂) Er s₁) Er s):
  Jh (Mo C) A (Jx (.BoolOp .Or (x::y::z::r) pos) env) Q Er s:=by
 show Jh (Mo C) A (do
  let v<-Jx x env
  standAt pos
  let t<-holding [v] (Jv v)
  match BoolOp.Or,t with
  | .And,Jd| .Or,Jc=>pure v
  |_,_=>boolOp pos .Or (Jx y env::Jx z env::evalEach r env)) Q Er s
 refine YA<|YC h (λv s₁ h₁=>YA<|YF (YA<|YE (YC h₁ (λt s₂ h₂=> ?_) λo0 o0 x=>x))) λo0 o0 x=>x
 induction t with
 |false=>exact h₂
 |true=>exact YB h₂
theorem qV(T:EvOK C G n sc a u)(R:EvOK C G n sc b v)(I:At C n sc env L A l σ s)(w:we G (aO C n) (.and_ a b) L σ Q X):
  Jh (Mo C) A (Jx u env) (λx s₁=>Jh (Mo C) A (Jv x) (λt j=>if t then Jh (Mo C) A (Jx v env) (VP C none1 σ s Q) (XP C none1 σ s X) j else VP C none1 σ s Q x j) (XP C none1 σ s X) s₁) (XP C none1 σ s X) s:=
 EOK.then (T I w) λf W o O h m P r w=>by
  obtain⟨b,rfl,w⟩:=xo h w;refine dD ?_
  induction b with
  |true=>exact EOK.after P r<|R (I.step P m) w
  |false=>exact VP.from P r<|VP.here m rfl ⟨rfl,rfl⟩ fW w
theorem vf(T:EvOK C G n sc a u)(R:EvOK C G n sc b v)(I:At C n sc env L A l σ s)(w:we G (aO C n) (.or_ a b) L σ Q X):
  Jh (Mo C) A (Jx u env) (λx s₁=>Jh (Mo C) A (Jv x) (λt j=>if t then VP C none1 σ s Q x j else Jh (Mo C) A (Jx v env) (VP C none1 σ s Q) (XP C none1 σ s X) j) (XP C none1 σ s X) s₁) (XP C none1 σ s X) s:=
 EOK.then (T I w) λf W o O h m P r w=>by
  obtain⟨b,rfl,w⟩:=xo h w;refine dD ?_
  induction b with
  |false=>exact EOK.after P r<|R (I.step P m) w
  |true=>exact VP.from P r<|VP.here m rfl ⟨rfl,rfl⟩ fW w
theorem BP.from{σ1:PH}{W:Je}{K:Bool->PH->Prop}{b:Bool}{J:Je}(st:Step none1 σ s.heap σ1 W.heap)(r:Rest s W)(x:BP C σ1 W K b J):BP C σ s K b J:=
 by obtain⟨O,a,b,c,d⟩:=x;exact⟨O,a,st.trans b,r.trans c,d⟩
theorem BP.after{W:Je}{K:Bool->PH->Prop}(st:Step none1 σ s.heap σ1 W.heap)(r:Rest s W)(h:Jh (Mo C) A t (BP C σ1 W K) (XP C none1 σ1 W X) W):
  Jh (Mo C) A t (BP C σ s K) (XP C none1 σ s X) W:=YC h (λo0 o0 x=>BP.from st r x) λo0 o0 x=>XP.from st r x
def Goes(C:Cx)(A:Jj)(t e:Sem Bool):Prop:=∀ (R:Bool->Je->Prop) (E:Jf->Je->Prop) (g:Je),Jh (Mo C) A e R E g->Jh (Mo C) A t R E g
theorem rL{K:Bool->PH->Prop}(H:TsOK C G n sc a u)(R:TsOK C G n sc b v)(I:At C n sc env L A l σ s)(w:we G (aO C n) (.and_ a b) L σ (λv σ1=>cU (λb=>K b σ1) v) X)(W:Goes C A t (Ub v env (Jx v env))):
  Jh (Mo C) A (Ub u env<|eval u env) (λb s₁=>if b then Jh (Mo C) A t (BP C σ s K) (XP C none1 σ s X) s₁ else BP C σ s K Jd s₁) (XP C none1 σ s X) s:=
 YC (H (K:=λT σ1=>if T then we G (aO C n) b L σ1 (λv σ1=>cU (λb=>K b σ1) v) X else K Jd σ1) I w) (λT O h=>by
  obtain⟨σ1,m,P,r,w⟩:=h
  induction T with
  |true=>exact W _ _ _<|BP.after P r (R (I.step P m) w)
  |false=>exact⟨σ1,m,P,r,w⟩) λo0 o0 x=>x
theorem vM{K:Bool->PH->Prop}(H:TsOK C G n sc a u)(R:TsOK C G n sc b v)(I:At C n sc env L A l σ s)(w:we G (aO C n) (.or_ a b) L σ (λv σ1=>cU (λb=>K b σ1) v) X)(W:Goes C A t (Ub v env (Jx v env))):
  Jh (Mo C) A (Ub u env<|eval u env) (λb s₁=>if b then BP C σ s K Jc s₁ else Jh (Mo C) A t (BP C σ s K) (XP C none1 σ s X) s₁) (XP C none1 σ s X) s:=
 YC (H (K:=λT σ1=>if T then K Jc σ1 else we G (aO C n) b L σ1 (λv σ1=>cU (λb=>K b σ1) v) X) I w) (λT O h=>by
  obtain⟨σ1,m,P,r,w⟩:=h
  induction T with
  |false=>exact W _ _ _<|BP.after P r (R (I.step P m) w)
  |true=>exact⟨σ1,m,P,r,w⟩) λo0 o0 x=>x
theorem zD(T:EvOK C G n sc a u/\TsOK C G n sc a u)(H:EvOK C G n sc b v/\TsOK C G n sc b v):EvOK C G n sc (.and_ a b) (.BoolOp .And [u,v] p)/\TsOK C G n sc (.and_ a b) (.BoolOp .And [u,v] p):=
 ⟨λI w=>wpAny_And2 (qV T.1 H.1 I w),λI w=>J2 (YL (rL T.2 H.2 I w λR E g h=>YL (YC h (λb W H=>by
  induction b with
  |true=>exact wpAny_allTrue_And_nil H
  |false=>exact H) λo0 o0 x=>x)))⟩
theorem xa(T:EvOK C G n sc a u/\TsOK C G n sc a u)(H:EvOK C G n sc b (.BoolOp .And (v::z::r) p)/\TsOK C G n sc b (.BoolOp .And (v::z::r) p)):EvOK C G n sc (.and_ a b) (.BoolOp .And (u::v::z::r) p)/\TsOK C G n sc (.and_ a b) (.BoolOp .And (u::v::z::r) p):=
 ⟨λI w=>tW<|qV T.1 H.1 I w,λI w=>J2<|wpAny_allTrue_And_cons (rL T.2 H.2 I w λR E g h=>h)⟩
theorem Bi(T:EvOK C G n sc a u/\TsOK C G n sc a u)(H:EvOK C G n sc b v/\TsOK C G n sc b v):EvOK C G n sc (.or_ a b) (.BoolOp .Or [u,v] p)/\TsOK C G n sc (.or_ a b) (.BoolOp .Or [u,v] p):=
 ⟨λI w=>wpAny_Or2 (vf T.1 H.1 I w),λI w=>J2 (YR (vM T.2 H.2 I w λR E g h=>YR (YC h (λb W H=>by
  induction b with
  |true=>exact H
  |false=>exact wpAny_allTrue_Or_nil H) λo0 o0 x=>x)))⟩
theorem yQ(T:EvOK C G n sc a u/\TsOK C G n sc a u)(H:EvOK C G n sc b (.BoolOp .Or (v::z::r) p)/\TsOK C G n sc b (.BoolOp .Or (v::z::r) p)):EvOK C G n sc (.or_ a b) (.BoolOp .Or (u::v::z::r) p)/\TsOK C G n sc (.or_ a b) (.BoolOp .Or (u::v::z::r) p):=
 ⟨λI w=>wo<|vf T.1 H.1 I w,λI w=>J2<|wpAny_allTrue_Or_cons (vM T.2 H.2 I w λR E g h=>h)⟩
theorem jp{σ:PH}{h:Ji}{p:PV}{v:Jf}(hv:VR C σ h p v):(v==Value.none)=p.isNone:=by
 induction p using PV.casesOn with
 |none=>rw[show v=_ from hv];rfl
 |bool=>rw[show v=_ from hv];rfl
 |int=>obtain⟨t,rfl⟩:=hv;rfl
 |str=>obtain⟨t,rfl⟩:=hv;rfl
 |tup=>obtain⟨a,o0,o0,rfl,o0⟩:=hv;rfl
 |ref=>rw[show v=_ from hv];rfl
 |scr=>obtain⟨a,o0,o0,o0,rfl,o0⟩:=hv;rfl
theorem sh(T:EvOK C G n sc a u):EvOK C G n sc (.isNone a) (.Compare u [.Is] [.Constant .none k q] p):=λI w=>
 wpAny_Compare1 (EOK.then (T I w) λf W o m h e t r w=>JL<|is_none (by rw[jp h];exact⟨.bool _,m,rfl,e,t,r,w⟩))
theorem qu(T:EvOK C G n sc a u):TsOK C G n sc (.isNone a) (.Compare u [.Is] [.Constant .none k q] p):=λI w=>
 YS (EOK.then (T I w) λf W o m h e t r w=>JL<|is_none (dD<|by rw[jp h];exact⟨m,e,t,r,w⟩))
theorem p0(T:EvOK C G n sc a u):EvOK C G n sc (.notNone a) (.Compare u [.IsNot] [.Constant .none k q] p):=λI w=>
 wpAny_Compare1 (EOK.then (T I w) λf W o m h e t r w=>JL<|isNot_none (by rw[jp h];exact⟨.bool _,m,rfl,e,t,r,w⟩))
theorem oo(T:EvOK C G n sc a u):TsOK C G n sc (.notNone a) (.Compare u [.IsNot] [.Constant .none k q] p):=λI w=>
 YS (EOK.then (T I w) λf W o m h e t r w=>JL<|isNot_none (dD<|by rw[jp h];exact⟨m,e,t,r,w⟩))
theorem iE{W:Je}{K:PV->Bool->PH->Prop}{R:Jf->Jf->Je->Prop}(N:mC e o=Jc)(g:EvOK C G n sc b v)(I:At C n sc env L A l σ1 W)(P:Step none1 σ s.heap σ1 W.heap)(B:Rest s W)(Q:VR C σ1 W.heap M J)
  (w:we G (aO C n) b L σ1 (λq O=>wcmp e M q O<|K q) X)(D:∀T r H σ3 Z,VR C σ3 Z.heap r H->Sim C σ3 Z.heap->Step none1 σ s.heap σ3 Z.heap->Rest s Z->K r T σ3->R H (.bool T) Z):
  Jh (Mo C) A (Jx v env) (λy j=>Jh (Mo C) A (YY o J y) (R y) (XP C none1 σ s X) j) (XP C none1 σ s X) W:=
 EOK.seq (g I w) P B λH s2 r O f Y V t d w=>YC (zP N Y I.ak.u100 (Q.step t) f w) (λv Z h=>by
  obtain⟨U,σ3,i,m,E,F,T,rfl,S⟩:=h;rw[show v= .bool T from i];exact D T r H σ3 Z (f.step E) m (V.trans E) (d.trans F) S) λo0 o0 x=>x
theorem Ak(N:mC V o=Jc)(O:JI o v=Jd)(H:EvOK C G n sc a u)(g:EvOK C G n sc b v):EvOK C G n sc (.cmp V a b) (.Compare u [o] [v] p)/\TsOK C G n sc (.cmp V a b) (.Compare u [o] [v] p):=
 ⟨λ{e L A l σ s Q X} I w=>wpAny_Compare1 (EOK.then (H I w) λW F j T h B t f w=>iE (R:=λo0=>VP C none1 σ s Q) N g (I.step t B) t f h w λM U x D Z o0 m y r q=>⟨.bool M,D,rfl,m,y,r,q⟩) O,
  λ{e L A l σ s K X} I w=>YS (EOK.then (H I w) λW F j T h B t f w=>iE (R:=λo0 c Z=>Jh (Mo C) A (Jv c) (BP C σ s K) (XP C none1 σ s X) Z) N g (I.step t B) t f h w λM U x D Z o0 m y r q=>dD ⟨D,m,y,r,q⟩) O⟩
theorem kN(h:JI U r=Jd):lastMarks [o,U] [f,r]=Jd:=by
 simpa [lastMarks] using h
theorem vX(N:mC o r=Jc)(Y:mC m h=Jc)(W:JI h z=Jd)(H:EvOK C G n sc a u)(g:EvOK C G n sc b v)(Z:EvOK C G n sc c z):EvOK C G n sc (.cmp2 a o b m c) (.Compare u [r,h] [v,z] p):=λ{e V A l σ s Q X} I w=>
 PyProof.Rows.Compare_chain (EOK.then (H I w) λF s1 q1 O K B P M w=>PyProof.Rows.chain_link (iE N g (I.step P B) P M K w λT L v2 D E d J t y w=>dD (by
  induction T with
  |false=>exact⟨.bool Jd,D,rfl,J,t,y,w⟩
  |true=>exact PyProof.Rows.chain_last (iE (R:=λo0=>VP C none1 σ s Q) Y Z (I.step t J) t y d w λT q4 S i U o0 j x f q=>⟨.bool T,i,rfl,j,x,f,q⟩)))) (kN W)
theorem tV(N:mC o r=Jc)(Y:mC m h=Jc)(W:JI h z=Jd)(H:EvOK C G n sc a u)(S:EvOK C G n sc b v)(g:EvOK C G n sc c z):TsOK C G n sc (.cmp2 a o b m c) (.Compare u [r,h] [v,z] p):=λ{e V A l σ s K X} I w=>
 PyProof.Rows.isTrue_chain (EOK.then (H I w) λF s1 q1 O Q B P M w=>PyProof.Rows.test_link (iE N S (I.step P B) P M Q w λT L v2 D Z d J t y w=>dD (by
  induction T with
  |false=>exact⟨D,J,t,y,w⟩
  |true=>exact PyProof.Rows.test_last (iE (R:=λo0 c Z=>Jh (Mo C) A (Jv c) (BP C σ s K) (XP C none1 σ s X) Z) Y g (I.step t J) t y d w λT q4 E i U o0 j x f q=>dD ⟨i,j,x,f,q⟩)))) (kN W)
end
end
end
theorem zW(h:kz x=Jc)(env:Js):∀v,JU x env v=pure v:=by
 intro v
 induction x using Expr.casesOn with
 |Set es k p=>exact ft h
 |_=>rfl
section
variable{C:Cx}{G:Gx}{mg mb:Jq->Option Jf}{n:Nat}
theorem Evs.plain:∀ {es:List E} {xs:List Jl},Evs C G n sc es xs->dm xs=Jc
 |[],_=>λh=>by rw[show _=[] from h];rfl
 |_::_,_=>λh=>by
  obtain⟨x,r,rfl,N,o0,J⟩:=h;exact fJ (f8 N)<|Evs.plain J
theorem Evs.length:∀ {es:List E} {xs:List Jl},Evs C G n sc es xs->xs.length=es.length
 |[],_=>λh=>by rw[show _=[] from h];rfl
 |_::_,_=>λh=>by
  obtain⟨x,r,rfl,o0,o0,J⟩:=h;exact Uk (· +1)<|Evs.length J
theorem jS:∀ {es:List E} {xs:List Jl} {σ:PH} {s:Je} {Q:List PV->PH->Prop},
  Evs C G n sc es xs->At C n sc env L A l σ s->wes G (aO C n) es L σ Q X->EOKs C A σ s (J9<|backTo pos (JF xs env)) (λps σ1=>ps.length=es.length/\Q ps σ1) X
 |[],_,σ,s,Q=>λh I w=>by
  rw[show _=[] from h];exact Calls.spliced_nil ⟨[],σ,rfl,I.m,.refl _ _ _,⟨rfl,rfl⟩,rfl,w⟩
 |e::es,_,σ,s,Q=>λh I w=>by
  obtain⟨x,r,rfl,N,Y,H⟩:=h;rw[cq (f8 N)];show Jh _ _ (J9 ((Jd,Jx x env)::J1 pos (JF r env))) _ _ s;refine Calls.spliced_cons (EOK.then (Y I w) λf W j σ1 K B P d w=> ?_);refine EOKs.seq (jS H (I.step P B) w) P d λJ R ps O T m o t M w=> ?_;exact⟨j::ps,O,⟨f,J,rfl,K.step t,T⟩,m,o,M,Uk (· +1) w.1,w.2⟩
section
variable{sc:Jk}{a b:E}{es:List E}{u v:Jl}{xs:List Jl}{p:Y8}{k:Nat}
theorem zL(h:Evs C G n sc es xs)(Y:xs.length<=100):EvOK C G n sc (.tup es) (.Tuple xs k p):=λI w=>
 wpAny_Tuple_spliced (YC (jS h I w) (λJ W s=>by
  obtain⟨Q,m,hv,B,t,f,o,w⟩:=s;refine⟨?_,VP.from t f (VP.allocTup (vs:=J.toArray) (n:=0) B rfl ⟨rfl,rfl⟩ hv w)⟩;rw[hv.length,o,<-h.length];exact QD Y (by decide)) λo0 o0 x=>x)
theorem wA(h:Evs C G n sc es xs)(Y:xs.length<=100):EvOK C G n sc (.list es) (.List xs p):=λI w=>
 wpAny_List_spliced (YC (jS h I w) (λJ W s=>by
  obtain⟨Q,m,hv,B,t,f,g,w⟩:=s;refine⟨?_,VP.from t f (VP.alloc (o:= .list Q) B rfl ⟨rfl,rfl⟩ rfl ⟨J.toArray,0,rfl,hv⟩ w)⟩;rw[hv.length,g,<-h.length];exact QD Y (by decide)) λo0 o0 x=>x)
theorem AB(H:EvOK C G n sc a u)(g:EvOK C G n sc b v):EvOK C G n sc (.sub a b) (.Subscript u v p):=λI w=>by
 refine PyProof.Rows.Subscript_ (EOK.then (H I w) λf W S X K Q t d w=> ?_);refine EOK.seq (g (I.step t Q) w) t d λV D U O h m o s R j=> ?_;refine VP.to0 o R ?_
 rcases j with j|j
 ·obtain⟨r,i,N,rfl,e,J⟩:=iD j;obtain⟨k,M,z⟩:=i3 J;obtain⟨q,T,B⟩:=jP z;rw[show f= .ref r from K];exact wM I.ak.u100 m e h M T B
 obtain⟨k,F,j,B⟩:=gE j;obtain⟨q,T,B⟩:=jP B;refine zH m (K.step s) h T (λE M=> ?_) B;obtain rfl:=sj<|F.symm.trans M;exact QD j<|by decide
end
theorem pc(k:Nat)(i:Int):clipAt k i=cut k i:=by
 unfold clipAt cut;by_cases h:0<=i
 ·rw[Uh h,Ug<|KF.mpr h,Int.max_eq_right (Int.le_min.mpr ⟨h,QU k⟩)];obtain⟨j,rfl⟩:=Int.eq_ofNat_of_zero_le h
  rcases Nat.le_total j k with q|q
  ·rw[Int.min_eq_left (Ks.mpr q)];exact(Nat.min_eq_left q).symm
  ·rw[Int.min_eq_right (Ks.mpr q)];exact(Nat.min_eq_right q).symm
 ·have h:=Yl.mp h;rw[Ug (Yl.mpr h),Uh h,Int.min_eq_left (QN (Int.add_le_add_right (Yd h) _)<|Int.le_of_eq (We _))]
  rcases Int.le_total 0 (i+k) with q|q
  ·rw[Int.max_eq_right q]
  ·rw[Int.max_eq_left q,Int.toNat_of_nonpos q];rfl
theorem kT{s:Je}{Er:Jf->Je->Prop}{l:List PV}{f hi:Option Int}(m:Sim C σ s.heap)(e:σ r=Ja (.list l))(pl:IsPart R f)(H:IsPart X hi)(Z:Okl l)
  (j:wnew (.list<|(l.drop<|f.elim 0 (clipAt l.length)).take (hi.elim l.length (clipAt l.length)-f.elim 0 (clipAt l.length))) σ Q):
  Jh (Mo C) A (PyProof.Rows.subscriptTail g i (.ref r)<|.ref s.heap.objs.size) (VP C none1 σ s Q) Er {s with heap:=s.heap.push {cls:= .type "slice",data:= .fields #[R,X,.none]}}:=by
 have t:Step none1 σ s.heap σ (s.heap.push {cls:= .type "slice",data:= .fields #[R,X,.none]}):= .push _ _ _ _;obtain⟨w,k,N,Y⟩:=m.list e;have h:w.size=l.length:=Y.length;obtain⟨z,d⟩:=lq i (.ref r)<|.ref s.heap.objs.size;have L:(s.heap.push {cls:= .type "slice",data:= .fields #[R,X,.none]}).IsList r w:=Heap.IsList.push ⟨_,N,rfl,k,rfl⟩ _;refine PyProof.Rows.tail_any (T:="list") (Heap.IsList.typeIs (s:={s with heap:=s.heap.push {cls:= .type "slice",data:= .fields #[R,X,.none]}}) L) slot_list_getitem.lookup
  (wpAny_getItem_list_slice L (Heap.IsSliceOf.new ..) pl H .none (by simp) ?_<|by rw[h];exact QD Z<|by decide) d
 rw[slicePick_plain,h];refine VP.from (s₁:={s with heap:=s.heap.push {cls:= .type "slice",data:= .fields #[R,X,.none]}}) t ⟨rfl,rfl⟩<|VP.alloc (o:= .list _) (m.push _) rfl ⟨rfl,rfl⟩ rfl ⟨_,0,rfl,?_⟩ j;exact((Y.drop _).take _).step t
theorem lw{s J Z:Je}(st:Step none1 σ s.heap O J.heap)(r:Rest s J)(h:Jh (Mo C) A t (VP C none1 O J Q) (λo0 o0=>False) Z):Jh (Mo C) A t (VP C none1 σ s Q) (XP C none1 σ s X) Z:=
 YC h (λo0 o0 x=>VP.from st r x) λo0 o0 x=>x.elim
section
variable{sc:Jk}{a b:E}{es:List E}{u v:Jl}{xs:List Jl}{p q:Y8}
theorem xc(T:EvOK C G n sc a u)(R:EvOK C G n sc b v):EvOK C G n sc (.upto a b) (.Subscript u (.Slice Jb (Ja v) Jb q) p):=λ{F L A l E s Q X} I w=>by
 refine PyProof.Rows.Subscript_ (EOK.then (T I w) λW D d g K B t Y w=> ?_);refine wpAny_Slice ?_;rw[evalPart_none,evalPart_some];refine YB ?_;refine EOK.seq (R (I.step t B) w) t Y λH J U O h m o i M w=>YB ?_;obtain⟨k,rfl,w⟩:=du w;obtain⟨tk,rfl⟩:=h;refine lw o M ?_
 induction d using PV.casesOn with
 |ref r=>
  obtain⟨l,e,f,j⟩:=iL (show onO (λl=>Okl l/\wnew (.list<|l.take (cut l.length k)) O Q) (O r) from w);rw[show W= .ref r from K];refine kT m e .none (.int k tk) f ?_;simp only[Option.elim,pc,List.drop_zero,Nat.sub_zero];exact j
 |_=>exact w.elim
theorem xO(T:EvOK C G n sc a u)(R:EvOK C G n sc b v):EvOK C G n sc (.from_ a b) (.Subscript u (.Slice (Ja v) Jb Jb q) p):=λ{F L A l E s Q X} I w=>by
 refine PyProof.Rows.Subscript_ (EOK.then (T I w) λW D d g K B t Y w=> ?_);refine wpAny_Slice ?_;rw[evalPart_none,evalPart_some];refine EOK.seq (R (I.step t B) w) t Y λH J U O h m o i M w=>YB<|YB ?_;obtain⟨k,rfl,w⟩:=du w;obtain⟨tk,rfl⟩:=h;refine lw o M ?_
 induction d using PV.casesOn with
 |ref r=>
  obtain⟨l,e,f,j⟩:=iL (show onO (λl=>Okl l/\wnew (.list<|l.drop (cut l.length k)) O Q) (O r) from w);rw[show W= .ref r from K];refine kT m e (.int k tk) .none f ?_;simp only[Option.elim,pc];rw[WF (by simp)];exact j
 |_=>exact w.elim
theorem eQ{py p:Y8}:Jx (.Call (.Name f py) xs [] p) env=(do callWith p (<-Jx (.Name f py) env) [] (J1 p (JF xs env)) (Y4 p (YH [] env))):=rfl
theorem iI{env:Js}{L:Rho}{σ:PH}{s:Je}{A:Jj}{l:List Js}{X:XPost}{x:String}{v:Jf}{py:Y8}{Q':List PV->PH->Prop}{R:Jf->Je->Prop}
  (h:Evs C G n sc es xs)(I:At C n sc env L A l σ s)
  (d:∀ (R:Jf->Je->Prop) (Er:Jf->Je->Prop),R v s->Jh (Mo C) A (Jx (.Name (Qb x) py) env) R Er s)(kp:Kp C v)(w:wes G (aO C n) es L σ Q' X)
  (k:∀vs W ps σ1,VRs C σ1 W.heap ps vs->Sim C σ1 W.heap->Step none1 σ s.heap σ1 W.heap->Rest s W->ps.length=es.length->Q' ps σ1->Jh (Mo C) A (call v vs) R (XP C none1 σ s X) W):
  Jh (Mo C) A (Jx (.Call (.Name (Qb x) py) xs [] p) env) R (XP C none1 σ s X) s:=by
 rw[eQ];refine YA<|d _ _ (de (first:=[]) kp h.plain ?_);refine YC (jS h I w) (λvs W T=> ?_) λo0 o0 x=>x;obtain⟨ps,σ1,hv,m,t,f,o,w⟩:=T;exact⟨m.base,k vs W ps σ1 hv m t f o w⟩
theorem vZ(g:GOK C G mg mb){py:Y8}(D:bZ f=Jc)(o:sc.names.lookup (Qb f)=Ja .globalImplicit)(B:bB (Qb f)=Jc)(h:Evs C G n sc es xs):EvOK C G n sc (.call f es) (.Call (.Name (Qb f) py) xs [] p):=λI w=>by
 obtain⟨v,hv,kp⟩:=g.fn f w.1;refine iI h I (λR E X=>iO g I.ev I.m (I.sr.glob _ o) B (g.fv f v D hv) X) kp w.2 λJ W t O T Q s m d w=> ?_;obtain⟨K,e,o0,w⟩:=w;obtain rfl:=sj<|hv.symm.trans e;exact YC (w _ _ W J (I.ak.step s) Q T) (λo0 o0 x=>VP.from s m x) λo0 o0 x=>XP.from s m x
end
theorem GOK.noSys(g:GOK C G mg mb){h:Ji}(m:Sim C σ h):h.objs.size≠JE:=λq=>by
 obtain⟨o,es,s,e,o0⟩:=g.g;have:=QH<|m.base _ _ e;rw[q] at this;exact absurd this<|by decide
theorem Br(g:GOK C G mg mb){sc:Jk}{b:BI}{py p:Y8}(B:sc.names.lookup (Qb b.nm)=Ja .globalImplicit)(W:bB (Qb b.nm)=Jc)(h:Evs C G n sc es xs):EvOK C G n sc (.bi b es) (.Call (.Name (Qb b.nm) py) xs [] p):=λI w=>
 iI h I (λR o X=>gI g I.ev I.m (I.sr.glob _ B) W b.mem b.boot X) (b.kp C) w.2 λJ D t O T m s f d H=>
  VP.to0 s f (AE ((I.ak.step s).hd.ok m) (w.1.imp id λq=>I.ak.calm<|g.calm q) I.ak.u100 m T H<|g.noSys m)
theorem uf(h:T∈bty):Y3 (Qb T)=Ja (.type T)/\T∈bltNames:=by
 simp only[bty,Qx,Ki,or_false] at h
 rcases h with rfl|rfl|rfl|rfl|rfl<;>exact⟨by decide+kernel,by decide⟩
theorem noExc(h:t∈bty)(D:p= .ref a){d:Option Jg}(q:σ1 a=Ja (.exc c d))(e:isiV G σ1 p [t]=Ja b):False:=by
 subst D;replace e:isiO G [t] (σ1 a)=Ja b:=e;rw[q] at e;replace e:(if([t].all G.isCls)=Jc then Ja ([t].any (G.sub c)) else Jb)=Ja b:=e;simp only[List.all_cons,List.all_nil,WA] at e;have:G.isCls t=Jd:=by
  simp only[bty,Qx,Ki,or_false] at h
  rcases h with rfl|rfl|rfl|rfl|rfl<;>simp[Gx.isCls]
 rw[this] at e;simp at e
theorem n8{L:Type}{l:List L}(h:l.length=1):∃a,l=[a]:=by
 induction l using List.casesOn with
 |nil=>cases h
 |cons a r=>induction r using List.casesOn with
  |nil=>exact⟨a,rfl⟩
  |cons=>cases h
theorem i6:∀ {ts:List String} {es:List Jl},jH sc ts es=Jc->es.length=ts.length
 |[],[]=>λo0=>rfl
 |[],_::_=>λh=>by exact ft h
 |_::_,[]=>λh=>by exact ft h
 |_::_,_::_=>λh=>Uk (· +1)<|i6 (and2 h).2
inductive MTy(sc:Jk)(ts:List String)(t:Jl):Prop
 |tup (es:List Jl) (k:Nat) (p:Y8) (e:t= .Tuple es k p) (h:jH sc ts es=Jc) (h2:2<=es.length) (h3:es.length<=100):MTy sc ts t
 |one (d:String) (e:ts=[d]) (h:glb sc d t=Jc):MTy sc ts t
theorem tc{f:String->Bool}(h:oneT f ts=Jc):∃d,ts=[d]/\f d=Jc:=by
 induction ts using List.casesOn with
 |nil=>exact bnx h
 |cons d r=>induction r using List.casesOn with
  |nil=>exact⟨d,rfl,h⟩
  |cons=>exact bnx h
theorem jZ(h:mType sc ts t=Jc):MTy sc ts t:=by
 have one:∀t,oneT (λd=>glb sc d t) ts=Jc->MTy sc ts t:=λt h=>by obtain⟨d,e,h⟩:=tc h;exact .one d e h
 induction t using Expr.casesOn with
 |Tuple es k p=>
  obtain⟨h1,h2⟩:=and2 (show(jH sc ts es&&(decide (2<=es.length)&&decide (es.length<=100)))=Jc from h);exact .tup es k p rfl h1 (Uf (and2 h2).1)<|of_decide_eq_true (and2 h2).2
 |_=>exact one _ h
theorem yV(T:Todo C G n)(g:GOK C G mg mb){sc:Jk}{py p:Y8}(B:sc.names.lookup (Qb "isinstance")=Ja .globalImplicit)(Y:bB (Qb "isinstance")=Jc)(S:kz y=Jc)(J:mType sc ts t=Jc)(D:EvOK C G n sc a y):
  EvOK C G n sc (.isi a ts) (.Call (.Name (Qb "isinstance") py) [y,t] [] p):=λ{F ρ A l σ s Q X} I w=>by
 have z:stat ts=Jc↔(ts.length=1/\∀t∈ts,t∈bty):=by
  simp only[stat,QL,beq_iff_eq,Qy,Yu,Uj];rfl
 induction H:stat ts with
 |false=>exact T.isi (g.full ((show _/\_ from w).1.resolve_left λh=>ft (H.symm.trans (z.mpr h)))) H B Y S J D I w
 |true=>
 obtain⟨w1,w⟩:=w;obtain⟨j,f⟩:=z.mp H;obtain⟨R,rfl⟩:=n8 j;have o:R∈bty:=f R<|Qk.mpr rfl;have Z:glb sc R t=Jc:=by
  cases jZ J with
  |tup es k p e h L J=>
   rw[i6 h] at L;exact absurd L (show ¬2<=1 by decide)
  |one d e h=>cases e;exact h
 obtain⟨V,rfl,N,O⟩:=iG Z;obtain⟨i,M⟩:=uf o;rw[eQ];refine YA<|gI g I.ev I.m (I.sr.glob _ B) Y (by decide) (v:= .builtin "isinstance") (by decide+kernel) (de (first:=[]) ⟨.machine,.inr<|.inl rfl,W.Looks.of_pure rfl⟩ (fJ (f8 S) rfl) ?_);rw[cq (f8 S)];show Jh _ _ (J9 [(Jd,Jx y F),(Jd,Jx (.Name (Qb R) V) F)]) _ _ s;refine Calls.spliced_cons (EOK.then (D I w) λv1 s1 p1 aa K m P r1 w=> ?_);refine Calls.spliced_cons<|gI g (I.ev.step P) m (I.sr.glob _ N) O M i (Calls.spliced_nil ⟨m.base,?_⟩);obtain⟨b,e,w⟩:=t7 w;rw[yu H] at e;exact VP.to0 P r1<|zB o m K e (λa c U d q=>noExc o U q e) w
theorem kB{nm:Jq}(h:ei x=Jc):attributeBase x nm env (Jx x env)=Jx x env:=by
 induction x using Expr.casesOn with
 |Call f as kw q=>induction as using List.casesOn with
  |nil=>exact bnx h
  |cons a as=>rcases f with⟨⟩<;>rfl
 |_=>rfl
theorem sC{xs:List Jl}{p q:Y8}(h2:ei y=Jc)(h5:(p.endLine==q.line)=Jc)(h6:xs.length=1)(ho:EvOK C G n sc o y)(h:Evs C G n sc es xs):EvOK C G n sc (.meth o .append es) (.Call (.Attribute y (Qb "append") p) xs [] q):=λ{F ρ A l σ s Q X} I w=>by
 obtain⟨e,rfl⟩:=n8<|h.length.symm.trans h6;obtain⟨z,r,rfl,hz,h3,rfl⟩:=h;have D:JF [z] F=[(Jd,Jx z F)]:=by rw[cq (f8 hz)];rfl
 refine wpAny_Call_append (kB h2) ?_ h5 (by rw[D];rfl) ?_
 ·rw[D];rfl
 refine EOK.then (ho I w) λv1 s1 p1 T K L t r1 Z=> ?_;obtain⟨a,l1,rfl,e1,o0⟩:=fw (show onL T (λo0=>True) p1 from Z.1);rw[show v1= .ref a from K];obtain⟨W,N,g1,g2⟩:=L.list e1;refine⟨a,W,rfl,⟨_,N,g1,rfl,rfl,rfl⟩,?_⟩;refine EOK.seq (h3 (I.step t L) Z.2) t r1 λH s2 U O f M V i P j=> ?_;obtain⟨Y,R,j,w3⟩:=iL (show onO (λl=>l.length<lim/\Q .none (O.set a<|.list (l++[U]))) (O a) from j);obtain⟨m,k2,g3,d⟩:=M.list R;have J:m.size=Y.length:=d.length;refine VP.to0 V P<|wpAny_list_append_plain ⟨k2,g3⟩ (λh' g B=> ?_) (by rw[J];exact QD (KW j)<|by decide);obtain⟨k3,g⟩:=g;obtain⟨u1,u2⟩:=Sim.upd (S:=none1) (o':= .list (Y++[U])) M R rfl B g ⟨m.push H,k3,rfl,by rw[Array.toList_push];exact d.append ⟨H,[],rfl,f,rfl⟩⟩;exact⟨.none,_,mW,u1,u2,⟨rfl,rfl⟩,w3⟩
theorem th:∀k,mG C k
 | .val=>vy
 | .range=>qD
 | .zip=>uV
theorem uu{tg:Tg}(h:mTg sc tg t=Jc)(h2:tg.isTup=Jc):pW t:=by
 induction tg with
 |name x=>exact ft h2
 |tup xs=>
  induction t using Expr.casesOn with
  |Tuple es a b=>exact⟨es,a,b,rfl⟩
  |_=>first|exact bnx h|exact onx h|cases h
def ItOK(C:Cx)(G:Gx)(n:Nat)(sc:Jk)(tg:Tg):IK->List E->Jl->Prop
 | .val,es,i=>Evs C G n sc es [i]
 | .range,es,i=>X3 λpy as q=>A4 (i= .Call (.Name (Qb "range") py) as [] q) (sc.names.lookup (Qb "range")=Ja .globalImplicit) (bB (Qb "range")=Jc)<|Evs C G n sc es as
 | .zip,es,i=>X3 λpy as q=>A5 (i= .Call (.Name (Qb "zip") py) as [] q) (sc.names.lookup (Qb "zip")=Ja .globalImplicit) (bB (Qb "zip")=Jc) (Evs C G n sc es as)<|tg.isTup=Jc
theorem ItOK.of(h:mIt sc k tg es i=Jc)(s:∀xs,mEs sc es xs=Jc->Evs C G n sc es xs):ItOK C G n sc tg k es i:=by
 induction k with
 |val=>exact s _ h
 |range=>exact uj (P:=ItOK C G n sc tg .range es) (f:=λas=>mEs sc es as&&decide (as.length=1)) h λpy as q N Y J=>⟨py,as,q,rfl,N,Y,s _ (and2 J).1⟩
 |zip=>exact uj (P:=ItOK C G n sc tg .zip es) (f:=λas=>mEs sc es as&&(decide (as.length=2)&&tg.isTup)) h λpy as q N Y J=>⟨py,as,q,rfl,N,Y,s _ (and2 J).1,(and2 (and2 J).2).2⟩
theorem Evs.one(h:Evs C G n sc es [x]):∃a,A3 (es=[a]) (kz x=Jc) (EvOK C G n sc a x):=by
 rcases es with o0|⟨a,es⟩
 ·cases h
 obtain⟨x,r,e,N,Y,J⟩:=h;cases e
 rcases es with o0|⟨o0,o0⟩
 ·exact⟨a,rfl,N,Y⟩
 ·obtain⟨o0,o0,e,o0⟩:=J;cases e
theorem ItOK.fold(h:ItOK C G n sc tg k es i)(env:Js):∀v,JU i env v=pure v:=by
 induction k with
 |val=>obtain⟨a,rfl,N,o0⟩:=Evs.one h;exact zW N env
 |range=>obtain⟨o0,o0,o0,rfl,o0⟩:=h;intro v;rfl
 |zip=>obtain⟨o0,o0,o0,rfl,o0⟩:=h;intro v;rfl
theorem kQ(g:GOK C G mg mb){k:IK}{K:List PV->(PH->Prop)->PH->Prop}
  (hk:k.isZ=Jd\/G.calm=Jc)(hi:ItOK C G n sc tg k es i)(N:mTg H tg t=Jc)(I:At C n sc env F A l σ s)
  (w:wes G (aO C n) es F σ (λvs σ1=>src k vs σ1 λxs chk=>xs.length<=lim/\whid k σ1 λσ1=>K xs chk σ1) X):
  jw C A env t i σ s K (XP C none1 σ s X):=by
 intro R V;have f:∀vs O h σ1,(k= .zip->pW t)->VRs C σ1 O.heap h vs->Sim C σ1 O.heap->Step none1 σ s.heap σ1 O.heap->Rest s O->(src k h σ1 λxs chk=>xs.length<=lim/\whid k σ1 λσ1=>K xs chk σ1)->tU C A k vs R (XP C none1 σ s X) O:=λvs O h σ1 hz hv m P B w=>
  th k A t h vs σ1 O K R _ (λq=>I.ak.calm<|g.calm (hk.resolve_left λz=>by exact tf<|q.symm.trans z)) hz hv m w λxs chk I fp St L s2 S M m2 o r2 j hl hK=>
   V I fp St L s2 xs chk S M m2 (P.trans o) (B.trans r2) (λb D=>⟨P.old m (j b D).1,(j b D).2⟩) hl hK
 induction k with
 |val=>
  obtain⟨a,rfl,o0,U⟩:=Evs.one hi;exact EOK.then (U I w) λJ O p1 σ1 Q m P B w=>f [J] O [p1] σ1 (λq=>by cases q) ⟨J,[],rfl,Q,rfl⟩ m P B w
 |range=>
  obtain⟨py,as,q,rfl,d,Y,Z⟩:=hi;exact iI Z I (λR Er V=>gI g I.ev I.m (I.sr.glob _ d) Y (by decide) (v:= .type "range") (by decide+kernel) V) ⟨.machine,.inr<|.inl rfl,W.Looks.of_pure rfl⟩
   w λvs O h σ1 T m P B hn w=>f vs O h σ1 (λq=>by cases q) T m P B w
 |zip=>
  obtain⟨py,as,q,rfl,d,Y,Z,h8⟩:=hi;exact iI Z I (λR Er V=>gI g I.ev I.m (I.sr.glob _ d) Y (by decide) (v:= .type "zip") (by decide+kernel) V) ⟨.machine,.inr<|.inl rfl,W.Looks.of_pure rfl⟩
   w λvs O h σ1 T m P B hn w=>f vs O h σ1 (λo0=>uu N h8) T m P B w
theorem XP.none{P:Prop}(x:XP C none1 σ1 s (λo0 o0=>False) e s'):P:=by obtain⟨o0,o0,o0,o0,o0,o0,q⟩:=x;exact q.elim
section
variable{sc:Jk}{e c:E}{x y:Jl}{A:Jj}{l:List Js}
theorem qT(h:EvOK C G n sc e x)(i:Js)(K:ScR sc i)(L:Rho)(σ:PH)(s:Je)(Q:Post)(W:EnvR C i L σ s.heap)(m:Sim C σ s.heap)(t:AOK C n A l σ s.heap)(w:we G (aO C n) e L σ Q λo0 o0=>False)(Er:Jf->Je->Prop):Jh (Mo C) A (Jx x i) (VP C none1 σ s Q) Er s:=
 YC (h ⟨K,W,m,t⟩ w) (λo0 o0 x=>x) λo0 o0 x=>XP.none x
theorem u8(i:Js)(W:ScR sc i)(L:Rho)(σ:PH)(s:Je)(K:Bool->PH->Prop)(X:EnvR C i L σ s.heap)(m:Sim C σ s.heap)(h:AOK C n A l σ s.heap)(w:K Jc σ)(Er:Jf->Je->Prop):Jh (Mo C) A (tests [] i) (λok s'=>∃σ',A4 (Sim C σ' s'.heap) (Step none1 σ s.heap σ' s'.heap) (Rest s s') (K ok σ')) Er s:=
 wpAny_tests_nil ⟨σ,m,.refl _ _ _,⟨rfl,rfl⟩,w⟩
theorem uh(h:TsOK C G n sc e x)(i:Js)(V:ScR sc i)(L:Rho)(σ:PH)(s:Je)(K:Bool->PH->Prop)(W:EnvR C i L σ s.heap)(m:Sim C σ s.heap)(t:AOK C n A l σ s.heap)(w:we G (aO C n) e L σ (λv σ'=>cU (λb=>K b σ') v) λo0 o0=>False)(Er:Jf->Je->Prop):Jh (Mo C) A (tests [x] i) (λok s'=>∃σ',A4 (Sim C σ' s'.heap) (Step none1 σ s.heap σ' s'.heap) (Rest s s') (K ok σ')) Er s:=
 wpAny_tests_one (YC (h ⟨V,W,m,t⟩ w) (λb D x=>by obtain⟨T,F,j,H,O⟩:=x;exact⟨T,F,j,H,O⟩) λo0 o0 x=>XP.none x)
theorem xh(g:GOK C G mg mb)(N:ItOK C G n sc tg k es i)(Y:mTg M tg t=Jc)(T:eY sc M=Jc)(B:ownOk tg M=Jc)(O:EvOK C G n M e x):EvOK C G n sc (.comp e tg k es) (.ListComp x [⟨t,i,[],0⟩] M p):=λ{F L A l W s Q X} I w=>
 nZ (tst:=λo0 W K=>K Jc W) (el:=λh W K=>we G (aO C n) e h W K λo0 o0=>False) I.ev I.ak I.sr T B Y (N.fold F) (kQ g w.1 N Y I w.2) u8 (qT O)
theorem sz(g:GOK C G mg mb)(N:ItOK C G n sc tg k es i)(Y:mTg M tg t=Jc)(o:eY sc M=Jc)(B:ownOk tg M=Jc)(O:EvOK C G n M e x)(Z:TsOK C G n M c y):EvOK C G n sc (.compIf e tg k es c) (.ListComp x [⟨t,i,[y],0⟩] M p):=λ{F L A l W s Q X} I w=>
 nZ (tst:=λh W K=>we G (aO C n) c h W (λv T=>cU (λb=>K b T) v) λo0 o0=>False) (el:=λh W K=>we G (aO C n) e h W K λo0 o0=>False) I.ev I.ak I.sr o B Y (N.fold F) (kQ g w.1 N Y I w.2) (uh Z) (qT O)
end
theorem uz(g:GOK C G mg mb):EvOK C G n sc .dict0 (.Dict [] [] p):=λ{F L A l t s Q X} I w=>by
 show Jh _ _ (Jx (.Dict [] [] p) F) _ _ s;rw[arm_eval_Dict];refine YA<|YF ?_;show Jh _ _ newDict _ _ s;exact JC<|VP.alloc (o:= .dict [] []) I.m rfl ⟨rfl,rfl⟩ rfl ⟨#[],0,[],⟨rfl,rfl,rfl⟩,rfl,rfl,rfl,.nil,λy h=>(bQ h),rfl⟩ w.2 (g.noSys I.m)
theorem oC(h:kz y=Jc):JF [y,.List [] r] env=[(Jd,Jx y env),(Jd,Jx (.List [] r) env)]:=by
 rw[cq (f8 h)];rfl
section
variable{sc:Jk}{a k:E}{y kx:Jl}{p q r:Y8}
theorem uU{m:String}{id:String}{env:Js}{L:Rho}{σ:PH}{s:Je}{A:Jj}{l:List Js}{X:XPost}{P:PV->PH->PV->PH->Prop}{R:Jf->Je->Prop}(slot:Slot "dict" (Qb m) id)(h:typeOf (.builtin id)=pure (.type "method_descriptor"))
  (kp:Kp C (.builtin id))(Q:ei y=Jc)(h4:(p.endLine==q.line)=Jc)(hz:kz kx=Jc)(I:At C n sc env L A l σ s)(S:EvOK C G n sc a y)(g:EvOK C G n sc k kx)
  (w:we G (aO C n) a L σ (λM σ1=>onD σ1 (λo0 o0=>True) M/\we G (aO C n) k L σ1 (λd O=>P M σ1 d O) X) X)
  (f:∀r σ1 d O H J,P (.ref r) σ1 d O->VR C O J.heap d H->Sim C O J.heap->Step none1 σ s.heap O J.heap->Rest s J->
   Jh (Mo C) A (call (.builtin id) [.ref r,H,.ref J.heap.objs.size]) R (XP C none1 σ s X) {J with heap:=J.heap.push (lstO #[] 0)}):Jh (Mo C) A (Jx (.Call (.Attribute y (Qb m) p) [kx,.List [] r] [] q) env) R (XP C none1 σ s X) s:=by
 refine wpAny_Call_method_late (kB Q) (by rw[oC hz];rfl) h4 rfl ?_;refine EOK.then (S I w) λN E p1 σ1 K B t Y Z=> ?_;obtain⟨b,ks,ll,rfl,e,o0⟩:=iD Z.1;rw[show N= .ref b from K];obtain⟨xs,D⟩:=B.dict e;refine⟨"dict",id,F.plainAttrs_dict,slot,h,D.of.typeIs,PyProof.Rows.dictOfH_noDict D.of,?_⟩;refine de (first:=[.ref b]) kp (fJ (f8 hz) rfl) ?_;rw[oC hz];show Jh _ _ (J9 [(Jd,Jx kx env),(Jd,Jx (.List [] r) env)]) _ _ E;refine Calls.spliced_cons (EOK.seq (g (I.step t B) Z.2) t Y λH J U O z T V i W j=> ?_);refine Calls.spliced_cons<|wpAny_List_spliced (Calls.spliced_nil ⟨QY _,Calls.spliced_nil ⟨λb o q=>Qm _<|T.base b o q,?_⟩⟩);exact f b σ1 U O H J j z T V W
theorem zc(L:ei y=Jc)(E:(p.endLine==q.line)=Jc)(hz:kz kx=Jc)(Z:EvOK C G n sc a y)(g:EvOK C G n sc k kx):EvOK C G n sc (.get a k) (.Call (.Attribute y (Qb "get") p) [kx,.List [] r] [] q):=λ{z ρ A l V s Q X} I w=>by
 refine uU (m:="get") (P:=λf T d O=>onD O (λi l=>oK (λk=>wget (klook i l k) O Q)<|keyOf d) f) F.slot_dict_get F.type_dict_get ⟨.machine,.inr<|.inl rfl,W.Looks.of_pure rfl⟩ L E hz I Z g w ?_;intro r T d O v2 R w hv Y t M;obtain⟨b,i,U,N,e,j⟩:=iD w;cases N;obtain⟨K,H,B⟩:=i3 j;have J:=Y.push<|lstO #[] 0;obtain⟨xs,D⟩:=J.dict e;obtain⟨S,rfl,h⟩:=lK H<|hv.step (Step.push none1 O R.heap<|lstO #[] 0);refine call_meetsIn F.slot_dict_get D.of.typeIs F.entry_dict_get (F.args_dict_get_3 _ _ _) (meetsH_dict_get_default (tk C.prog C.w) r S D.sys _) ⟨iM I.ak.u100,K,xs,h.is,D.of,?_⟩
 rcases D.look (k:=K) with⟨z1,z2⟩|⟨p,y,z1,z2,z3⟩
 ·rw[z2];rw[z1] at B;exact VP.from t M<|VP.alloc (o:= .list []) Y rfl ⟨rfl,rfl⟩ rfl ⟨#[],0,rfl,rfl⟩ B
 ·rw[z2];rw[z1] at B;exact⟨p,O,z3,J,t.trans<|.push _ _ _ _,M.trans ⟨rfl,rfl⟩,B⟩
theorem AV(h:ei y=Jc)(h4:(p.endLine==q.line)=Jc)(hz:kz kx=Jc)(ha:EvOK C G n sc a y)(hk:EvOK C G n sc k kx):EvOK C G n sc (.sd a k) (.Call (.Attribute y (Qb "setdefault") p) [kx,.List [] r] [] q):=λ{an ρ A l σ s Q X} I w=>by
 refine uU (m:="setdefault") (P:=λva E d O=>wsd va O Q d) F.slot_dict_setdefault F.type_dict_setdefault ⟨.machine,.inr (.inl rfl),W.Looks.of_pure rfl⟩ h h4 hz I ha hk w ?_;intro r E d O v2 J w hv m2 V r2;obtain⟨L,T,e,ad,w2⟩:=lz (show onDO (λL l=>l.length<lim/\oK (λk=>match klook L l k with
  |some v=>Q v O
  |none=>∀b,O b=Jb->Q (.ref b) ((O.set b (.list [])).set r (.dict (L++[k]) (l++[.ref b])))) (keyOf d)) (O r) from w)
 obtain⟨t,aa,B⟩:=i3 w2;have m3:=m2.push<|lstO #[] 0;have af:=hv.step<|Step.push none1 O J.heap (lstO #[] 0);obtain⟨xs,D⟩:=m3.dict e;obtain⟨kb,rfl,f⟩:=lK aa af;have ah:xs.length<=JM:=by
  have N:=D.v.length;rw[Qd] at N;rw[N,JZ];exact QD (KW ad)<|by decide
 refine kv (iM I.ak.u100) f.is D.sys D.of (λy z2=> ?_) (λz2 h' hd hs=> ?_) ah
 ·rcases D.look (k:=t) with⟨o0,z⟩|⟨p,y',z1,U,z4⟩
  ·exact sn<|z2.symm.trans z
  ·obtain rfl:=sj<|z2.symm.trans U;rw[z1] at B;exact⟨p,O,z4,m3,V.trans<|.push _ _ _ _,r2.trans ⟨rfl,rfl⟩,B⟩
 ·have z1:klook L T t=Jb:=by
   rcases D.look (k:=t) with⟨z,o0⟩|⟨p,y',o0,U,o0⟩
   ·exact z
   ·exact ns<|z2.symm.trans U
  rw[z1] at B;have hL:O J.heap.objs.size=Jb:=m2.fresh<|QA _;have M:r≠J.heap.objs.size:=λq=>by rw[q,hL] at e;exact ns e
  obtain⟨p4,aj,a1,m4,ac,r4,⟨b4,a5,a6⟩⟩:=VP.alloc (S:=none1) (Q:=λv Y=>∃b,v= .ref b/\Y=O.set b (.list [])) (s:=J) (s':={J with heap:=J.heap.push (lstO #[] 0)}) (o:= .list []) m2 rfl ⟨rfl,rfl⟩ rfl ⟨#[],0,rfl,rfl⟩ λb hb=>⟨b,rfl,rfl⟩
  ·subst a5 a6;cases (show Value.ref J.heap.objs.size= .ref b4 from a1);have e4:(O.set J.heap.objs.size<|.list []) r=Ja (.dict L T):=by rw[PH.set_ne _ _ M];exact e
   obtain⟨R,H⟩:=m4.dict e4;have ae:R=xs:=by
    obtain⟨o1,ak,al,g1,o0,d1,x1,o0⟩:=D.of;obtain⟨o2,ai,am,g2,o0,d2,x2,o0⟩:=H.of;obtain rfl:=sj<|g1.symm.trans g2;rw[d1] at d2;cases d2;rw[x1] at x2;have ab:=H.ks.trans D.ks.symm;refine WI λi=> ?_;have N:(R.map (·.1))[i]? =(xs.map (·.1))[i]? :=by rw[ab]
    have h:(xs.map<|entryOfKey (tk C.prog C.w))[i]? =(R.map<|entryOfKey (tk C.prog C.w))[i]? :=by rw[x2]
    rw[Qw,Qw] at N h
    induction c1:R[i]? with
    |none=>rw[c1] at h;induction Z:xs[i]? with
     |none=>rfl
     |some y=>rw[Z] at h;exact sn h
    |some z=>induction Z:xs[i]? with
     |none=>rw[c1,Z] at N;exact sn N
     |some y=>
      rw[c1,Z] at N h;obtain⟨z1,z2,U⟩:=z;obtain⟨y1,y2,y3⟩:=y;have N:z1=y1:=Option.some.inj N;have h:=Option.some.inj h;simp only[JP,DictEntry.mk.injEq,Value.ref.injEq] at h;rw[N,h.2.1,h.2.2]
   subst ae;have K:KeyAt C (O.set J.heap.objs.size<|.list []) (J.heap.push<|lstO #[] 0) t kb:=by
    obtain⟨n',vs,mm,g,i⟩:=f;refine⟨?_,vs,mm,g,i⟩;rw[PH.set_ne]
    ·exact n'
    ·intro q;rw[q,QG _ rfl] at g;exact absurd (Uk (Wt Obj.cls) g)<|by simp
   obtain⟨u1,u2⟩:=H.set (p:= .ref J.heap.objs.size) (v:= .ref J.heap.objs.size) m4 e4 K rfl (by rw[storedH_new z2];exact hd) hs;have ek:kset L T t (.ref J.heap.objs.size)= .dict (L++[t]) (T++[.ref J.heap.objs.size]):=by
    unfold kset;have:kidx L t=Jb:=by
     induction q:kidx L t with
     |none=>rfl
     |some j=>
      have:=H.some_ (k:=t);rw[q,z2] at this;exact tf this
    rw[this]
   rw[ek] at u1 u2;exact⟨.ref J.heap.objs.size,_,rfl,u1,(V.trans ac).trans u2,(r2.trans r4).trans ⟨rfl,rfl⟩,B _ hL⟩
end
theorem VRs.bs:∀ {l:List PV} {bs:List Bool} {vs:List Jf},er l=Ja bs->VRs C σ h l vs->vs=bs.map .bool
 |[],bs,vs=>λe r=>by rw[show vs=[] from r,<-sj e];rfl
 |p::l,bs,vs=>λe r=>by
  obtain⟨v,vs,rfl,f,M⟩:=r
  induction p using PV.casesOn with
  |bool b=>
   obtain⟨s,T,rfl⟩:=Qu.mp (show(er l).map (b:: ·)=Ja bs from e);rw[show v= .bool b from f,VRs.bs T M];rfl
  |_=>exact ns e
theorem oY:∀bs:List Bool,(bs.map Value.bool).countP (PyProof.Rows.isBoolOf Jc)=bs.count Jc
 |[]=>rfl
 |b::bs=>by rw[Qo,Ys,List.count_cons,oY bs];rcases b with⟨⟩<;>rfl
theorem x6(bs:List Bool):∀y,y∈(bs.map Value.bool).toArray->SeqAt.EqAt A s y (.bool Jc) (PyProof.Rows.isBoolOf Jc y):=λy h=>by
 obtain⟨b,o0,rfl⟩:=Ql.mp (show y∈bs.map Value.bool by simpa using h);exact SeqAt.EqAt.bool_bool b Jc
theorem zK{p q r:Y8}(h2:ei y=Jc)(h4:(p.endLine==q.line)=Jc)(Z:EvOK C G n sc a y):EvOK C G n sc (.cnt H a) (.Call (.Attribute y (Qb (cond H "index" "count")) p) [.Constant (.bool Jc) k r] [] q):=λ{Y ρ A l t s Q X} I w=>by
 have w:we G (aO C n) a ρ t (λV T=>onL T (λl=>oBs (λbs=>wcnt H bs λi=>Q (.int i) T)<|er l) V) X:=w;refine wpAny_Call_method_late (kB h2) rfl h4 rfl ?_;refine EOK.then (Z I w) λv1 O p1 T K L P r1 w1=> ?_;obtain⟨b,ll,rfl,e,U⟩:=fw w1;obtain⟨bs,hb,B⟩:=kK U;rw[show v1= .ref b from K];obtain⟨D,z,g,g2⟩:=L.list e;obtain rfl:D=(bs.map Value.bool).toArray:=by rw[<-g2.bs hb]
 have nd:∀M,Value.ref b= .ref M->∃R,O.heap.get? M=Ja R/\R.dict=Jb:=λM d=>by injection d with d;subst d;exact⟨_,g,rfl⟩
 have f:∀ {i:Int},Q (.int i) T->VP C none1 t s Q (.int i O.toks) {O with toks:=O.toks+1}:=λq=>⟨.int _,T,⟨_,rfl⟩,L,P,r1.trans ⟨rfl,rfl⟩,q⟩
 have o:∀ {S:String} (kp:Kp C (.builtin S)),Jh (Mo C) A (call (.builtin S) [.ref b,.bool Jc]) (VP C none1 t s Q) (XP C none1 t s X) O->Jh (Mo C) A (callWith q (.builtin S) [.ref b] (J1 q<|starEach [.Constant (.bool Jc) k r] Y) (Y4 q<|keywordEach [] Y)) (VP C none1 t s Q) (XP C none1 t s X) O:=λkp h=>
  de (first:=[.ref b]) kp rfl (show Jh _ _ (J9 [(Jd,Jx (.Constant (.bool Jc) k r) Y)]) _ _ O from Calls.spliced_cons<|wpAny_Constant_bool (Calls.spliced_nil ⟨L.base,h⟩))
 induction H with
 |false=>
  refine⟨"list","list.count",F.plainAttrs_list,F.slot_list_count,F.type_list_count,⟨_,g,rfl⟩,nd,o ⟨.machine,.inr<|.inl rfl,W.Looks.of_pure rfl⟩ ?_⟩;refine call_meets F.slot_list_count ⟨_,g,rfl⟩ F.entry_list_count (F.args_list_count_2 _ _) (SeqAt.list_countAt b _ z Jb #[] (.bool Jc) (PyProof.Rows.isBoolOf Jc)) ⟨g,x6 bs,?_⟩;show VP C none1 t s Q (.int ((bs.map Value.bool).countP (PyProof.Rows.isBoolOf Jc):Nat) O.toks) _;rw[oY];exact f B
 |true=>
  obtain⟨⟨hm,hl⟩,B⟩:=(show(Jc∈bs/\bs.length<=1000)/\Q (.int (bs.idxOf Jc:Nat)) T from B)
  have J:∀m (h:m<(bs.map Value.bool).toArray.size) (h':m<bs.length),PyProof.Rows.isBoolOf Jc (bs.map Value.bool).toArray[m]=bs[m]:=λm h h'=>by
   rw[List.getElem_toArray,Wj];cases bs[m]<;>rfl
  have j:bs.idxOf Jc<bs.length:=List.idxOf_lt_length_of_mem hm;refine⟨"list","list.index",F.plainAttrs_list,F.slot_list_index,F.type_list_index,⟨_,g,rfl⟩,nd,o ⟨.machine,.inr<|.inl rfl,W.Looks.of_pure rfl⟩ ?_⟩;refine call_meets F.slot_list_index ⟨_,g,rfl⟩ F.entry_list_index (F.args_list_index_2 _ _) (SeqAt.list_indexAt b _ z Jb #[] (.bool Jc) (PyProof.Rows.isBoolOf Jc) (bs.idxOf Jc) (by simpa using j) ?_ ?_ ?_) ⟨g,x6 bs,f B⟩
  ·exact KB (QZ.mpr<|QX j hl)<|by decide
  ·rw[J _ _ j];exact List.getElem_idxOf j
  ·intro m h N;rw[J m h (Nat.lt_trans N j)];have:=List.not_of_lt_findIdx (p:=(· ==Jc)) N
   simpa using this
def Both(C:Cx)(G:Gx)(n:Nat)(sc:Jk)(e:E)(x:Jl):Prop:=EvOK C G n sc e x/\TsOK C G n sc e x
theorem pl{x:Jl}(h:EvOK C G n sc e x)(hx:∀env,Ub x env (Jx x env)=(do let v<-Jx x env;standAt x.pos;holding [v] (Jv v))):Both C G n sc e x:=⟨h,wk hx h⟩
def WB(C:Cx)(G:Gx)(n:Nat)(e:E):Prop:=∀ (sc:Jk) (x:Jl),mE sc e x=Jc->Both C G n sc e x
def WBs(C:Cx)(G:Gx)(n:Nat)(es:List E):Prop:=∀ (sc:Jk) (xs:List Jl),mEs sc es xs=Jc->Evs C G n sc es xs
mutual
theorem bP(T:Todo C G n)(g:GOK C G mg mb):∀e:E,WB C G n e
 | .none=>λo0 o0 h=>gV h λo0 o0=>pl xp λo0=>rfl
 | .bool _=>λo0 o0 h=>gV h λo0 o0=>pl xU λo0=>rfl
 | .int _=>λo0 o0 h=>gV h λo0 o0=>pl zQ λo0=>rfl
 | .str _=>λo0 o0 h=>gV h λo0 o0=>pl z7 λo0=>rfl
 | .loc _=>λo0 o0 h=>i5 h λo0 h1 h2=>pl (Aw h1 h2) λo0=>rfl
 | .glob _=>λo0 o0 h=>i5 h λo0 h1 h2=>pl (xt g h1 h2) λo0=>rfl
 | .bin _ a b=>λo0 o0 h=>Bc h λo0 o0 o0 o0 h1 h2 h3=>pl (zf h1 (bP T g a _ _ h2).1 (bP T g b _ _ h3).1) λo0=>rfl
 | .not_ a=>λo0 o0 h=>BS h λo0 o0 h=>⟨Ab (bP T g a _ _ h).1,v7 (bP T g a _ _ h).2⟩
 | .and_ a b=>λo0 o0 h=>s8 h (λo0 o0 o0 h1 h2=>zD (bP T g a _ _ h1) (bP T g b _ _ h2)) λo0 o0 o0 o0 o0 h1 h2=>xa (bP T g a _ _ h1)<|bP T g b _ _ h2
 | .or_ a b=>λo0 o0 h=>s8 h (λo0 o0 o0 h1 h2=>Bi (bP T g a _ _ h1) (bP T g b _ _ h2)) λo0 o0 o0 o0 o0 h1 h2=>yQ (bP T g a _ _ h1)<|bP T g b _ _ h2
 | .isNone a=>λo0 o0 h=>BC h λl c p h1 h2=>gV (P:=λc=>Both C G n _ _ (.Compare l [_] [c] p)) h2 λo0 o0=>⟨sh (bP T g a _ _ h1).1,qu (bP T g a _ _ h1).1⟩
 | .notNone a=>λo0 o0 h=>BC h λl c p h1 h2=>gV (P:=λc=>Both C G n _ _ (.Compare l [_] [c] p)) h2 λo0 o0=>⟨p0 (bP T g a _ _ h1).1,oo (bP T g a _ _ h1).1⟩
 | .cmp _ a b=>λo0 o0 h=>AR h λo0 o0 o0 o0 h1 h2 h3 h4=>Ak h1 h4 (bP T g a _ _ h2).1 (bP T g b _ _ h3).1
 | .cmp2 a _ b _ c=>λo0 o0 h=>ze h λo0 o0 o0 o0 o0 o0 h1 h2 h3 h4 h5 h6=>⟨vX h1 h2 h6 (bP T g a _ _ h3).1 (bP T g b _ _ h4).1 (bP T g c _ _ h5).1,tV h1 h2 h6 (bP T g a _ _ h3).1 (bP T g b _ _ h4).1 (bP T g c _ _ h5).1⟩
 | .tup es=>λo0 o0 h=>A2 h λo0 o0 o0 h1 h2=>pl (zL (dw T g es _ _ h1) h2) λo0=>rfl
 | .list es=>λo0 o0 h=>uZ h λo0 o0 h1 h2=>pl (wA (dw T g es _ _ h1) h2) λo0=>rfl
 | .sub a b=>λo0 o0 h=>rE h λo0 o0 o0 h1 h2=>pl (AB (bP T g a _ _ h1).1 (bP T g b _ _ h2).1) λo0=>rfl
 | .upto a b=>λo0 o0 h=>rE h λu o0 p h1 h2=>BR (P:=λv=>Both C G n _ _ (.Subscript u v p)) h2 λo0 o0 h2=>pl (xc (bP T g a _ _ h1).1 (bP T g b _ _ h2).1) λo0=>rfl
 | .from_ a b=>λo0 o0 h=>rE h λu o0 p h1 h2=>BW (P:=λv=>Both C G n _ _ (.Subscript u v p)) h2 λo0 o0 h2=>pl (xO (bP T g a _ _ h1).1 (bP T g b _ _ h2).1) λo0=>rfl
 | .comp elt _ _ it=>λo0 o0 h=>t2 h λo0 o0 o0 o0 o0 h1 h2 h3 h4 h5=>pl (xh g (.of h1 (dw T g it _)) h2 h4 h5 (bP T g elt _ _ h3).1) λo0=>rfl
 | .compIf elt _ _ it c=>λo0 o0 h=>pM h λo0 o0 o0 o0 o0 o0 h1 h2 h3 h6 h4 h5=>pl (sz g (.of h1 (dw T g it _)) h2 h4 h5 (bP T g elt _ _ h3).1 (bP T g c _ _ h6).2) λo0=>rfl
 | .call f args=>λsc o0 h=>tx (f:=λx=>glb sc f x&&bZ f) h λy as p h1 h2=>by
  obtain⟨py,rfl,h3,h4⟩:=iG (and2 h1).1;exact pl (vZ g (and2 h1).2 h3 h4 (dw T g args _ _ (and2 h2).1)) λo0=>rfl
 | .bi _ args=>λo0 o0 h=>uj h λo0 o0 o0 h1 h2 h3=>pl (Br g h1 h2 (dw T g args _ _ (and2 h3).1)) λo0=>rfl
 | .isi a ts=>λsc o0 h=>uj h λpy as p h1 h2 h3=>ua (Q:=λas=>Both C G n sc (.isi a ts) (.Call (.Name (Qb "isinstance") py) as [] p)) h3 λo0 o0 h3 h4=>pl (yV T g h1 h2 (and2 h3).1 h4 (bP T g a _ _ (and2 h3).2).1) λo0=>rfl
 | .meth o .append args=>λo0 o0 h=>tH h λo0 o0 o0 o0 h1 h2 h3 h4=>pl (sC h2 h3 (Uf (and2 h4).2) (bP T g o _ _ h1).1 (dw T g args _ _ (and2 h4).1)) λo0=>rfl
 | .dict0=>λo0 o0 h=>xG h λo0=>pl (uz g) λo0=>rfl
 | .get a k=>λo0 o0 h=>tH h λy o0 p q h1 h2 h3 h4=>ua (Q:=λas=>Both C G n _ _ (.Call (.Attribute y _ p) as [] q)) h4 λkx o0 h4 h5=>ya (P:=λz=>Both C G n _ _ (.Call (.Attribute y _ p) [kx,z] [] q)) h5 λo0=>pl (zc h2 h3 (and2 h4).1 (bP T g a _ _ h1).1 (bP T g k _ _ (and2 h4).2).1) λo0=>rfl
 | .sd a k=>λo0 o0 h=>tH h λy o0 p q h1 h2 h3 h4=>ua (Q:=λas=>Both C G n _ _ (.Call (.Attribute y _ p) as [] q)) h4 λkx o0 h4 h5=>ya (P:=λz=>Both C G n _ _ (.Call (.Attribute y _ p) [kx,z] [] q)) h5 λo0=>pl (AV h2 h3 (and2 h4).1 (bP T g a _ _ h1).1 (bP T g k _ _ (and2 h4).2).1) λo0=>rfl
 | .attr _ _=>λo0 o0 h=>xW h λo0 p h1 o0 o0=>i5 (P:=λy=>Both C G n _ _ (.Attribute y _ p)) h1 λo0 h1 h2=>pl (T.attr h1 h2) λo0=>rfl
 | .mcall _ o args=>λo0 o0 h=>tH h λo0 o0 o0 o0 h1 h2 h3 h4=>pl (T.mcall (bP T g o _ _ h1).1 h2 h3 (dw T g args _ _ (and2 h4).1) (Uf (and2 (and2 h4).2).1) (nt (and2 (and2 h4).2).2)) λo0=>rfl
 | .cnt ix a=>λo0 o0 h=>tH h λy o0 p q h1 h2 h3 h4=>AU (Q:=λas=>Both C G n _ _ (.Call (.Attribute y _ p) as [] q)) h4 λo0 h5=>gV (P:=λz=>Both C G n _ _ (.Call (.Attribute y _ p) [z] [] q)) h5 λo0 o0=>pl (zK h2 h3 (bP T g a _ _ h1).1) λo0=>rfl
theorem dw(T:Todo C G n)(g:GOK C G mg mb):∀es:List E,WBs C G n es
 |[]=>λo0 xs h=>by
  rcases xs with o0|⟨o0,o0⟩
  ·rfl
  ·exact ft h
 |a::r=>λo0 xs h=>by
  rcases xs with o0|⟨x,xs⟩
  ·exact ft h
  ·have h:=and2 h;exact⟨x,xs,rfl,(and2 h.1).1,(bP T g a _ _ (and2 h.1).2).1,dw T g r _ _ h.2⟩
end
end
noncomputable def ownE(env:Js):Jg->Prop:=λb=>b=env.locals\/∃x,env.cells.lookup x=Ja b
def FR(C:Cx)(σ:PH)(h:Ji):Fl->Flow->Prop
 | .next,f=>f= .next
 | .ret p,f=>∃v,f= .ret v/\VR C σ h p v
inductive SP(C:Cx)(n:Nat)(A:Jj)(l:List Js)(env:Js)(σ:PH)(s:Je)(Q:SPost)(f:Flow)(s':Je):Prop
 |mk (fl:Fl) (ρ':Rho) (σ':PH) (a:FR C σ' s'.heap fl f) (b:EnvR C env ρ' σ' s'.heap) (c:Sim C σ' s'.heap) (d:Step (ownE env) σ s.heap σ' s'.heap) (e:Rest s s') (k:AOK C n A l σ' s'.heap) (q:Q fl ρ' σ'):SP C n A l env σ s Q f s'
inductive SX(C:Cx)(n:Nat)(A:Jj)(l:List Js)(env:Js)(σ:PH)(s:Je)(X:gu)(e:Jf)(s':Je):Prop
 |mk (x:PX) (ρ':Rho) (σ':PH) (a:Fly C env.frame x e σ' s.heap s'.heap) (b:EnvR C env ρ' σ' s'.heap) (c:Sim C σ' s'.heap) (d:Step (ownE env) σ s.heap σ' s'.heap) (r:Rest s s') (k:AOK C n A l σ' s'.heap) (q:X x ρ' σ'):SX C n A l env σ s X e s'
def TopF(env:Js)(l:List Js):Prop:=∃K,l=env::K/\env.frame=Ja env.locals
structure AtS(C:Cx)(n:Nat)(sc:Jk)(env:Js)(ρ:Rho)(A:Jj)(l:List Js)(σ:PH)(s:Je):Prop extends At C n sc env ρ A l σ s where
 tf:TopF env l
def StK(C:Cx)(G:Gx)(n:Nat)(sc:Jk)(st:S)(x:Jo):Prop:=∀ {env:Js} {L:Rho} {A:Jj} {l:List Js} {σ:PH} {s:Je} {Q:SPost} {X:gu},
 AtS C n sc env L A l σ s->ws G (aO C n) (aO C.un n) st L σ Q X->Jh (Mo C) A (exec x env) (SP C n A l env σ s Q) (SX C n A l env σ s X) s
def StsK(C:Cx)(G:Gx)(n:Nat)(sc:Jk)(t:List S)(xs:List Jo):Prop:=∀ {env:Js} {L:Rho} {A:Jj} {l:List Js} {σ:PH} {s:Je} {Q:SPost} {X:gu},
 AtS C n sc env L A l σ s->wss G (aO C n) (aO C.un n) t L σ Q X->Jh (Mo C) A (execs xs env) (SP C n A l env σ s Q) (SX C n A l env σ s X) s
structure Todo2(C:Cx)(G:Gx)(n:Nat):Prop where
 while_:∀ {sc t b u y p},TsOK C G n sc t u->StsK C G n sc b y->StK C G n sc (.while_ t b) (.While u y [] p)
 raise:C.ok->C.calm->∀ {sc c args py as p q},sc.names.lookup (Qb c)=Ja .globalImplicit->bB (Qb c)=Jc->as.length<=20->Evs C G n sc args as->StK C G n sc (.raise c args) (.Raise (Ja<|.Call (.Name (Qb c) py) as [] p) Jb q)
 try1:C.ok->C.calm->∀ {sc b c x h y t nm hb hr p q},glb sc c t=Jc->jV sc x nm=Jc->StsK C G n sc b y->StsK C.un G.un n sc h (hb::hr)->StK C G n sc (.try1 b c x h) (.Try y [.ExceptHandler (Ja t) nm (hb::hr) p] [] [] q)
section
variable{C:Cx}{G:Gx}{mg mb:Jq->Option Jf}{n:Nat}{A:Jj}{env:Js}{l:List Js}{σ:PH}{s:Je}
theorem Step.own{h S:Ji}(st:Step none1 σ h σ' S):Step (ownE env) σ h σ' S:=st.mono λo0 o0 f=>f.elim
theorem XP.stmt(W:EnvR C env L σ s.heap)(k:AOK C n A l σ s.heap)(x:XP C none1 σ s (λx σ1=>X x L σ1) e s'):SX C n A l env σ s X e s':=
 by obtain⟨x,T,a,b,c,d,q⟩:=x;exact⟨x,L,T,a.weak,W.step c,b,c.own,d,k.step c,q⟩
theorem SX.none{P:Prop}(x:SX C n A l env σ1 W (λo0 o0 o0=>False) e s'):P:=by obtain⟨o0,o0,o0,o0,o0,o0,o0,o0,o0,q⟩:=x;exact q.elim
theorem SP.from{W:Je}(st:Step (ownE env) σ s.heap σ1 W.heap)(r:Rest s W)(x:SP C n A l env σ1 W Q f s'):SP C n A l env σ s Q f s':=
 by obtain⟨fl,L,X,a,b,c,d,e,q,w⟩:=x;exact⟨fl,L,X,a,b,c,st.trans d,r.trans e,q,w⟩
theorem SX.from{W:Je}(st:Step (ownE env) σ s.heap σ1 W.heap)(r:Rest s W)(x:SX C n A l env σ1 W X f s'):SX C n A l env σ s X f s':=
 by obtain⟨fl,L,T,a,b,c,d,e,q,w⟩:=x;exact⟨fl,L,T,a.from st,b,c,st.trans d,r.trans e,q,w⟩
theorem jf(h:slot env xs c):ownE env c:=by
 obtain⟨x,o0,q|q⟩:=h
 ·exact .inl q.2
 ·exact .inr ⟨_,q.2⟩
theorem mX{h:Ji}(W:EnvR C env L σ h)(q:ownE env c):∃o,h.get? c=Ja o/\¬isSeq o:=by
 rcases q with rfl|⟨x,q⟩
 ·obtain⟨o0,⟨o,U,H,e,d,o0⟩,o0⟩:=W.ns;exact⟨o,e,cG d⟩
 ·obtain⟨o0,v,o,e,d⟩:=W.newC x c q;exact⟨o,e,fT d⟩
theorem Asg.step{S:Rho}(a:Asg C env (slot env xs) σ h W)(P:EnvR C env S B h₀)(st:Step (ownE env) B h₀ σ h):Step (ownE env) B h₀ σ W:=
 st.mvS a.mv λc f=> .inr ⟨jf f,λo e=>by obtain⟨i,g,q⟩:=mX P<|jf f;obtain rfl:=sj<|e.symm.trans g;exact q,by obtain⟨o,e,_⟩:=(a.has c f).2;exact⟨o,e⟩⟩
theorem AOK.asg{F:Jg->Prop}{h S:Ji}(k:AOK C n A l σ h)(a:Asg C env F σ h S):AOK C n A l σ S:=⟨k.depth,k.units,k.stack,a.frs l k.frs,k.calm,k.hd⟩
theorem p6{tg:Tg}(r:ScR sc env)(h:mTg sc tg t=Jc):∀x∈tg.names,env.kindOf (Qb x)=Ja .local\/env.kindOf (Qb x)=Ja .cell:=
 λx hx=>(rR h x hx).imp (r.loc _) (r.cell _)
theorem oE{W:Je}{Er:Jf->Je->Prop}(K:ScR sc env)(h:mTg sc tg t=Jc)(X:EnvR C env L σ s.heap)(k:AOK C n A l σ s.heap)
  (st:Step none1 σ s.heap σ1 W.heap)(r:Rest s W)(m:Sim C σ1 W.heap)(hv:VR C σ1 W.heap p v)(b:bindT tg p L=Ja ρ')(w:Q .next ρ' σ1):
  Jh (Mo C) A (assign t env v) (λo0 J=>SP C n A l env σ s Q .next J) Er W:=
 iN (k.step st).hd h (X.step st) m (p6 K h) hv b λJ a x M=>⟨.next,ρ',σ1,rfl,x,a.sim,a.step X st.own,r.trans M,(k.step st).asg a,w⟩
theorem pP{py:Y8}(h:kz x=Jc):JV x (Ja (.Name y py)) ln env=pure Jd\/(JV x (Ja (.Name y py)) ln env=pure Jc/\xk x=11):=by
 induction x using Expr.casesOn with
 |ListComp a b c d=>
  have:∃bb,JV (.ListComp a b c d) (Ja<|.Name y py) ln env=pure bb:=⟨_,rfl⟩
  obtain⟨bb,hb⟩:=this
  induction bb with
  |true=>exact .inr ⟨hb,rfl⟩
  |false=>exact .inl hb
 |SetComp=>exact ft h
 |DictComp=>exact ft h
 |_=>exact .inl rfl
theorem iq(h:kz x=Jc)(ht:(xk t==1)=Jd):JV x (Ja t) ln env=pure Jd:=by
 induction x using Expr.casesOn with
 |ListComp a b c d=>rcases t with⟨⟩<;>first|rfl|exact tf ht
 |SetComp=>exact ft h
 |DictComp=>exact ft h
 |_=>rfl
theorem qE(h:xk x=12):JV x Jb ln env=pure Jd:=by
 obtain⟨f,as,k,p,rfl⟩:=h▸xinv x;rfl
section
variable{sc:Jk}{e:E}{v:Jl}{p:Y8}
theorem wu(hx:xk v=12)(O:EvOK C G n sc e v):StK C G n sc (.expr e) (.Expr v p):=λ{env L A l σ s Q X} I w=>by
 refine wpAny_Expr_any (YC (O I.toAt w) (λv W hv=> ?_) λo0 o0 x=>XP.stmt I.ev I.ak x) ?_<|qE hx
 ·obtain⟨p,m,N,Y,h,T,B⟩:=hv;exact⟨.next,L,m,rfl,I.ev.step h,Y,h.own,T,I.ak.step h,B⟩
 ·simp[interactive,I.ev.fn]
theorem yI(O:EvOK C G n sc e v):StK C G n sc (.ret e) (.Return (Ja v) p):=λ{env L A l σ s Q X} I w=>by
 refine wpAny_Return_some (YC (O I.toAt w) (λv W hv=> ?_) λo0 o0 x=>XP.stmt I.ev I.ak x);obtain⟨p,m,N,Y,h,T,B⟩:=hv;exact⟨.ret p,L,m,⟨v,rfl,N⟩,I.ev.step h,Y,h.own,T,I.ak.step h,B⟩
theorem AtS.step{W:Je}(I:AtS C n sc env L A l σ s)(st:Step none1 σ s.heap σ1 W.heap)(m:Sim C σ1 W.heap):AtS C n sc env L A l σ1 W:=⟨I.toAt.step st m,I.tf⟩
theorem StsK.after{W:Je}(h:StsK C G n sc t xs)(I:AtS C n sc env j A l σ1 W)(w:wss G (aO C n) (aO C.un n) t j σ1 Q X)(st:Step (ownE env) σ s.heap σ1 W.heap)(r:Rest s W):
  Jh (Mo C) A (execs xs env) (SP C n A l env σ s Q) (SX C n A l env σ s X) W:=YC (h I w) (λo0 o0 x=>SP.from st r x) λo0 o0 x=>SX.from st r x
theorem BG{y z:List Jo}(W:TsOK C G n sc e v)(R:StsK C G n sc b y)(d:StsK C G n sc o z):StK C G n sc (.if_ e b o) (.If v y z p):=λ{env L A l σ s Q X} I w=>by
 refine wpAny_If (YC (W (K:=λT m=>if T then wss G (aO C n) (aO C.un n) b L m Q X else wss G (aO C n) (aO C.un n) o L m Q X) I.toAt w) (λT O h=> ?_) λo0 o0 x=>XP.stmt I.ev I.ak x);obtain⟨m,c,t,r,w⟩:=h
 induction T with
 |true=>exact R.after (I.step t c) w t.own r
 |false=>exact d.after (I.step t c) w t.own r
theorem xV:StsK C G n sc [] []:=λI w=>JO ⟨.next,_,_,rfl,I.ev,I.m,.refl _ _ _,⟨rfl,rfl⟩,I.ak,w⟩
theorem vI(H:StK C G n sc a x)(z:StsK C G n sc r xs):StsK C G n sc (a::r) (x::xs):=λ{env L A l σ s Q X} I w=>by
 refine YJ (YC (H I w) (λf O W=> ?_) λo0 o0 x=>x);obtain⟨fl,j,T,h,m,c,t,B,k,w⟩:=W
 induction fl with
 |next=>
  cases (show f= .next from h);exact z.after ⟨⟨I.sr,m,c,k⟩,I.tf⟩ w t B
 |ret p=>
  obtain⟨v,rfl,hv⟩:=h;exact⟨.ret p,j,T,⟨v,rfl,hv⟩,m,c,t,B,k,w⟩
end
end
section
end
section
variable{C:Cx}{σ:PH}{h:Ji}
mutual
theorem iX:∀ (p:PV) (v:Jf),VR C.un σ h p v=VR C σ h p v
 | .none=>λv=>rfl
 | .bool _=>λv=>rfl
 | .int _=>λv=>rfl
 | .str _=>λv=>rfl
 | .ref _=>λv=>rfl
 | .scr l=>λv=>rfl
 | .tup l=>λv=>propext ⟨λz=>by obtain⟨a,n,vs,T,e,X,u⟩:=z;exact⟨a,n,vs,T,e,X,(hY l _).mp u⟩,λz=>by obtain⟨a,n,vs,T,e,X,u⟩:=z;exact⟨a,n,vs,T,e,X,(hY l _).mpr u⟩⟩
theorem hY:∀ (l:List PV) (vs:List Jf),VRs C.un σ h l vs=VRs C σ h l vs
 |[]=>λvs=>rfl
 |p::ps=>λvs=>propext ⟨λz=>by obtain⟨v,r,T,e,X⟩:=z;exact⟨v,r,T,(iX p _).mp e,(hY ps _).mp X⟩,λz=>by obtain⟨v,r,T,e,X⟩:=z;exact⟨v,r,T,(iX p _).mpr e,(hY ps _).mpr X⟩⟩
end
theorem yk(p:PO)(o:Jp):OR C.un σ h p o=OR C σ h p o:=by
 induction p with
 |dict L l=>exact propext ⟨λM=>by obtain⟨U,s,P,x,d,e,k,nd,E,v⟩:=M;exact⟨U,s,P,x,d,e,k,nd,λy W=>by obtain⟨a,b,c,d,e⟩:=E y W;exact⟨a,b,c,d,e⟩,(hY _ _).mp v⟩,
   λM=>by obtain⟨U,s,P,x,d,e,k,nd,E,v⟩:=M;exact⟨U,s,P,x,d,e,k,nd,λy W=>by obtain⟨a,b,c,d,e⟩:=E y W;exact⟨a,b,c,d,e⟩,(hY _ _).mpr v⟩⟩
 |fd c V=>exact propext ⟨λM=>by obtain⟨U,s,e,k,v,z⟩:=M;exact⟨U,s,e,k,λi f p N Y=>(v i f p N Y).imp λo0 q=>⟨q.1,(iX _ _).mp q.2⟩,z⟩,λM=>by obtain⟨U,s,e,k,v,z⟩:=M;exact⟨U,s,e,k,λi f p N Y=>(v i f p N Y).imp λo0 q=>⟨q.1,(iX _ _).mpr q.2⟩,z⟩⟩
 |list l=>exact propext ⟨λM=>by obtain⟨w,n,e,r⟩:=M;exact⟨w,n,e,(hY _ _).mp r⟩,λM=>by obtain⟨w,n,e,r⟩:=M;exact⟨w,n,e,(hY _ _).mpr r⟩⟩
 |_=>rfl
end
section
variable{C:Cx}{G:Gx}{mg mb:Jq->Option Jf}{σ:PH}{h:Ji}{env:Js}{ρ:Rho}{n:Nat}{A:Jj}{l:List Js}
theorem Sim.un(m:Sim C σ h):Sim C.un σ h:=⟨m.base,m.new,λa o e=>by simpa only[yk] using m.objs a o e,m.rich⟩
theorem Sim.re(m:Sim C.un σ h):Sim C σ h:=⟨m.base,m.new,λa o e=>by simpa only[yk] using m.objs a o e,m.rich⟩
theorem EnvR.un(x:EnvR C env ρ σ h):EnvR C.un env ρ σ h:=⟨x.fn,x.glob,x.blt,by simpa only[iX] using x.ns,by simpa only[iX] using x.cell,x.newL,x.baseL,x.baseC,x.newC,x.apart,x.hasC⟩
theorem EnvR.re(x:EnvR C.un env ρ σ h):EnvR C env ρ σ h:=⟨x.fn,x.glob,x.blt,by simpa only[iX] using x.ns,by simpa only[iX] using x.cell,x.newL,x.baseL,x.baseC,x.newC,x.apart,x.hasC⟩
theorem AOK.un(x:AOK C n A l σ h)(d:HdR (A.mark e) σ):AOK C.un n (A.mark e) l σ h:=⟨x.depth,x.units,x.stack,x.frs,(λh=>h.elim),d⟩
theorem AOK.re{S:Ji}(x:AOK C.un n (A.mark e) l σ' S)(y:AOK C n A l σ h)(d:HdR A σ'):AOK C n A l σ' S:=⟨x.depth,x.units,x.stack,x.frs,y.calm,d⟩
theorem GOK.un(g:GOK C G mg mb):GOK C.un G.un mg mb:=⟨g.g,g.b,g.nolimit,g.blt,λx p e=>by simpa only[iX] using g.glob x p e,g.full,(λh=>by exact ft h),g.fv,g.fn⟩
end
section
variable{C:Cx}{G:Gx}{mg mb:Jq->Option Jf}{n:Nat}
theorem n0{s:Je}{T:Rho}
  {tst:Rho->PH->(Bool->PH->Prop)->Prop}{el:Rho->PH->Post->Prop}
  (Y:EnvR C env T σ s.heap)(k:AOK C n A l σ s.heap)(r:ScR sc env)(ok:eY sc scope=Jc)(ow:ownOk tg scope=Jc)(ht:mTg scope tg t=Jc)(hx:mTg sc (.name x) (.Name (Qb x) m)=Jc)
  (hs:∀x,JU iter env x=pure x)
  (w:jw C A env t iter σ s (λxs chk σ1=>gv chk tg T tst el xs [] σ1 λu O=>wnew (.list u) O λv σ3=>Q .next (T.put x v) σ3) (SX C n A l env σ s X))
  (P:∀i,ScR scope i->∀ρ' σ' s' I,EnvR C i ρ' σ' s'.heap->Sim C σ' s'.heap->AOK C n A l σ' s'.heap->tst ρ' σ' I->∀E,Jh (Mo C) A (tests K i) (λok W=>∃j,A4 (Sim C j W.heap) (Step none1 σ' s'.heap j W.heap) (Rest s' W)<|I ok j) E s')
  (B:∀i,ScR scope i->∀ρ' σ' s' Q,EnvR C i ρ' σ' s'.heap->Sim C σ' s'.heap->AOK C n A l σ' s'.heap->el ρ' σ' Q->∀E,Jh (Mo C) A (Jx g i) (VP C none1 σ' s' Q) E s'):
  Jh (Mo C) A (comprehension (.ListComp g [⟨t,iter,K,0⟩] scope pos) scope env J (newList []) Jd (Jx iter env)<|Ja (assign (.Name (Qb x) m) env)) (λo0 s'=>SP C n A l env σ s Q .next s') (SX C n A l env σ s X) s:=by
 refine rQ (Q:=λv σ3=>Q .next (T.put x v) σ3) Y k r ok ow ht hs w P B λD σ3 s3 L Z a r3 d F h3 ⟨M,U⟩ hq=> ?_;show Jh _ A (assign (.Name (Qb x) m) env<|.ref D) _ _ _;refine iN (ρ':=T.put x<|.ref D) (k.step a).hd hx (Y.step a) Z (p6 r hx) (p:= .ref D) rfl rfl λS b N r4=> ?_;have h:¬ownE env L:=λq=>by obtain⟨o,e,o0⟩:=mX Y q;exact ns<|d.symm.trans e
 have V:S.heap.Ns L M:=Ns.like U λo e=>⟨o,b.mv L o (λf=>h<|jf f) e,.refl o⟩
 refine⟨M,V,λh' H=> ?_⟩;have mv:Mv (· =L) S.heap h':=λc o f e=>H.extBut c o f e;obtain⟨o,es,ep,ho,R,o0⟩:=V;have z:Fok C σ3 S.heap (· =L):=λc f=>by
  have f:c=L:=f;subst f;exact⟨h3,.inl ⟨F,gC ho<|cG R⟩⟩
 refine⟨.next,T.put x (.ref D),σ3,rfl,N.mv mv z (λq=>h (.inl (q:env.locals=L).symm)) (λy c hc q=>h (.inr ⟨y,(q:c=L)▸hc⟩)),b.sim.mv mv z (λc f q=>by have f:c=L:=f;subst f;exact ns (F.symm.trans q)),
  (b.step Y a.own).mv mv (λc f=>by have f:c=L:=f;subst f;exact d),r3.trans r4,((k.step a).asg b).mv mv (λen he Lf hf q=> ?_),hq⟩
 obtain⟨o0,L',o',o0,o0,e1,o0,o0,e4,o0⟩:=k.frs en he;obtain rfl:=sj<|hf.symm.trans e1;have q:Lf=L:=q;subst q;exact ns<|d.symm.trans e4
theorem j1(g:GOK C G mg mb){k:IK}{K:List PV->(PH->Prop)->PH->Prop}
  (q:k.isZ=Jd\/G.calm=Jc)(hi:ItOK C G n sc tg k es i)(h:mTg c tg t=Jc)(I:At C n sc env L A l σ s)
  (w:wes G (aO C n) es L σ (λvs σ1=>src k vs σ1 λxs chk=>xs.length<=lim/\whid k σ1 λσ1=>K xs chk σ1) λx σ1=>X x L σ1):jw C A env t i σ s K (SX C n A l env σ s X):=λR b=>
 YC (kQ g q hi h I w R b) (λo0 o0 x=>YC x (λo0 o0 y=>y) λo0 o0 y=>XP.stmt I.ev I.ak y) λo0 o0 y=>XP.stmt I.ev I.ak y
theorem lA{pos:Y8}{Q:Flow->Je->Prop}{Er:Jf->Je->Prop}(E:JV v (Ja t) pos.line env=pure Jd)(w:swappedStores [t] v env=pure Jb)
  (W:kz t=Jc)(h:Jh (Mo C) A (Jx v env) (λx s₁=>Jh (Mo C) A (assign t env x) (λo0=>Q .next) Er s₁) Er s):Jh (Mo C) A (exec (.Assign [t] v pos) env) Q Er s:=by
 refine wpAny_Assign_stores (YC h (λx s₁ V=> ?_) λo0 o0 x=>x) E w;have:(JQ [t] env).map (·.2)=[assign t env]:=by rcases t with⟨⟩<;>first|rfl|exact ft W
 rw[this];exact V
theorem nS(h:xk v≠7):swappedStores [.Tuple es k p] v env=pure Jb:=by
 induction v using Expr.casesOn with
 |Tuple a b c=>exact absurd rfl h
 |_=>rfl
section
variable{sc:Jk}{e:E}{v:Jl}{pos:Y8}
theorem yt(hx:mTg sc (.tup xs) (.Tuple es a b)=Jc)(hz:kz v=Jc)(o:xk v≠7)(c:EvOK C G n sc e v):StK C G n sc (.assign (.tup xs) e) (.Assign [.Tuple es a b] v pos):=λ{F L A l W s Q X} I w=>by
 refine lA (iq hz rfl) (nS o) rfl (YC (c I.toAt w) (λJ q hv=> ?_) λo0 o0 x=>XP.stmt I.ev I.ak x);obtain⟨p,T,h,m,t,r,f⟩:=hv;obtain⟨O,R,f⟩:=p5 f;exact oE I.sr hx I.ev I.ak t r m h R f
theorem oa{R:Je->Prop}{Q:Flow->Je->Prop}{Er:Jf->Je->Prop}(hQ:∀s',R s'->Q .next s')
  (hs:JV (.ListComp elt [⟨t,iter,ifs,0⟩] scope p) (Ja<|.Name y pz) pos.line env=pure Jc)
  (h:Jh (Mo C) A (comprehension (.ListComp elt [⟨t,iter,ifs,0⟩] scope p) scope env (firstIterPos [⟨t,iter,ifs,0⟩] p) (newList []) Jd (Jx iter env)<|Ja (assign (.Name y pz) env)) (λo0 s'=>R s') Er s):
  Jh (Mo C) A (exec (.Assign [.Name y pz] (.ListComp elt [⟨t,iter,ifs,0⟩] scope p) pos) env) Q Er s:=by
 rw[exec_Assign_Name_used _ _ _ _ hs];refine YA<|YF (YA ?_);show Jh _ A (do let _<-comprehension (.ListComp elt [⟨t,iter,ifs,0⟩] scope p) scope env _ (newList []) Jd (Jx iter env) (Ja<|assign (.Name y pz) env)) _ _ s;exact YA<|YC h (λo0 s' hq=>YB<|YB (hQ s' hq)) λo0 o0 e=>e
theorem E.comp_of{P:E->Prop}{e:E}(h:e.isC=Jc)(k:∀l tg k i,P (.comp l tg k i))(A:∀l tg k i c,P (.compIf l tg k i c)):P e:=by
 induction e using E.casesOn with
 |comp l tg j i=>exact k l tg j i
 |compIf l tg j i c=>exact A l tg j i c
 |_=>exact ft h
theorem xb(T:Todo C G n)(g:GOK C G mg mb)(hx:mTg sc (.name y) (.Name (Qb y) pz)=Jc)(hz:kz v=Jc)(hc:xk v=11->e.isC=Jc)(hm:mE sc e v=Jc):StK C G n sc (.assign (.name y) e) (.Assign [.Name (Qb y) pz] v pos):=λ{env ρ A l σ s Q X} I w=>by
 rcases pP (env:=env) (y:=Qb y) (py:=pz) (ln:=pos.line) hz with hs|⟨hs,hl⟩
 ·refine lA hs rfl rfl (YC ((bP T g e sc v hm).1 I.toAt w) (λv1 s1 hv=> ?_) λo0 o0 x=>XP.stmt I.ev I.ak x);obtain⟨p1,σ1,hv1,m1,st1,r1,w1⟩:=hv;exact oE I.sr hx I.ev I.ak st1 r1 m1 hv1 rfl w1
 ·revert hm w
  refine E.comp_of (P:=λe=>mE sc e v=Jc->ws G (aO C n) (aO C.un n) (.assign (.name y) e) ρ σ Q X->Jh (Mo C) A (exec (.Assign [.Name (Qb y) pz] v pos) env) (SP C n A l env σ s Q) (SX C n A l env σ s X) s) (hc hl) (λelt tg k it hm w=> ?_) λelt tg k it c hm w=> ?_
  ·refine t2 (P:=λv=>JV v (Ja<|.Name (Qb y) pz) pos.line env=pure Jc->Jh (Mo C) A (exec (.Assign [.Name (Qb y) pz] v pos) env) (SP C n A l env σ s Q) (SX C n A l env σ s X) s) hm (λe t i sc' p h1 h2 h3 h4 h5 hs=>oa (λo0 q=>q) hs ?_) hs;have h1:=ItOK.of h1<|dw T g it sc;exact n0 (tst:=λo0 σ K=>K Jc σ) (el:=λρ' σ K=>we G (aO C n) elt ρ' σ K λo0 o0=>False) I.ev I.ak I.sr h4 h5 h2 hx (h1.fold env) (j1 g w.1 h1 h2 I.toAt w.2) u8<|qT (bP T g elt _ _ h3).1
  ·refine pM (P:=λv=>JV v (Ja<|.Name (Qb y) pz) pos.line env=pure Jc->Jh (Mo C) A (exec (.Assign [.Name (Qb y) pz] v pos) env) (SP C n A l env σ s Q) (SX C n A l env σ s X) s) hm (λe t i z sc' p h1 h2 h3 h6 h4 h5 hs=>oa (λo0 q=>q) hs ?_) hs;have h1:=ItOK.of h1<|dw T g it sc;exact n0 (tst:=λρ' σ K=>we G (aO C n) c ρ' σ (λv σ'=>cU (λb=>K b σ') v) λo0 o0=>False) (el:=λρ' σ K=>we G (aO C n) elt ρ' σ K λo0 o0=>False) I.ev I.ak I.sr h4 h5 h2 hx (h1.fold env) (j1 g w.1 h1 h2 I.toAt w.2) (uh (bP T g c _ _ h6).2)<|qT (bP T g elt _ _ h3).1
theorem zd(hz:kz v=Jc)(ho:EvOK C G n sc o u)(hi:EvOK C G n sc i y)(he:EvOK C G n sc e v):StK C G n sc (.setIdx o i e) (.Assign [.Subscript u y p] v pos):=λ{ad z A l σ s Q X} I w=>by
 refine wpAny_Assign_Subscript (YC (he I.toAt w) (λR s1 hv=> ?_) λo0 o0 x=>XP.stmt I.ev I.ak x)<|iq hz rfl;obtain⟨r,ac,K,m1,P,r1,w1⟩:=hv;refine YC (EOK.seq (ho (I.toAt.step P m1) w1) P r1 λv2 s2 p2 ab aa m2 W m r2 w2=> ?_) (λo0 o0 x=>x) λo0 o0 x=>XP.stmt I.ev I.ak x;refine YC (EOK.seq (hi (I.toAt.step W m2) w2) W r2 λv3 Z p3 V d J q T r3 B=> ?_) (λo0 o0 x=>x) λo0 o0 x=>XP.stmt I.ev I.ak x
 induction p2 using PV.casesOn with
 |ref a=>
  rw[show v2= .ref a from aa];have h:=(K.step m).step T
  rcases (show onDO (λks l=>l.length<lim/\oK (λk=>Q .next z<|V.set a (kset ks l k r)) (keyOf p3)) (V a)\/_ from B) with B|B
  ·obtain⟨ks,O,L,F,B⟩:=lz B;obtain⟨kk,H,c⟩:=i3 B;obtain⟨xs,D⟩:=J.dict L;obtain⟨kb,rfl,f⟩:=lK H d;have g:xs.length<=JM:=by
    have h1:=D.v.length;rw[Qd] at h1;rw[h1,JZ];exact QD (KW F)<|by decide
   refine wpAny_setItem_heap (hsz:=g) (iM I.ak.u100) f.is D.of λh' hd hs=> ?_;obtain⟨Y,U⟩:=D.set (p:=r) (v:=R) J L f h hd hs;have t:=q.trans U;exact⟨.next,z,_,rfl,I.ev.step t,Y,t.own,r3.trans ⟨rfl,rfl⟩,I.ak.step t,c⟩
  obtain⟨O,L,B⟩:=iL (show onO (λl=>onInt (λk=>oNat (λj=>l.length<=lim/\Q .next z (V.set a<|.list (l.set j r)))<|place l.length k) p3) (V a) from B);obtain⟨k,rfl,B⟩:=du B;obtain⟨j,hj,B,c⟩:=gE B;obtain⟨tk,rfl⟩:=d;obtain⟨vs,k',g1,g2⟩:=J.list L;have hn:vs.size=O.length:=g2.length;refine lR g1 (by rw[hn];exact QD B<|by decide) (by rw[hn];exact hj) ?_;have M:Ky a Z.heap (Z.heap.update a (Obj.mapSeq (·.setIfInBounds j R))):=Ky.update ..;have b:∃N,(Z.heap.update a (Obj.mapSeq (·.setIfInBounds j R))).get? a=Ja (lstO (vs.setIfInBounds j R) N):=by
   refine⟨?_,?_⟩
   rotate_left
   ·rw[Ka _ g1 rfl];simp only[Obj.mapSeq,lstO];rfl
  obtain⟨N,b⟩:=b;obtain⟨Y,U⟩:=Sim.upd (S:=none1) (o':= .list (O.set j r)) J L rfl M b ⟨_,N,rfl,by rw[Array.toList_setIfInBounds];exact g2.set j h⟩;have t:=q.trans U;exact⟨.next,z,_,rfl,I.ev.step t,Y,t.own,r3.trans ⟨rfl,rfl⟩,I.ak.step t,c⟩
 |_=>exact B.elim
structure ForAt(C:Cx)(St:Nat->PH->Ji->Prop)(env:Js)(n:Nat)(A:Jj)(l:List Js)(go:List PV->Rho->PH->Prop)(xs:List PV)(σ:PH)(s:Je)(i:Nat)(ρ':Rho)(σ':PH)(s':Je):Prop where
 le:i<=xs.length
 st:St i σ' s'.heap
 m:Sim C σ' s'.heap
 ev:EnvR C env ρ' σ' s'.heap
 step:Step (ownE env) σ s.heap σ' s'.heap
 rest:Rest s s'
 ak:AOK C n A l σ' s'.heap
 go:go (xs.drop i) ρ' σ'
theorem zu(g:GOK C G mg mb)(h1:mTg sc tg t=Jc)(h2:ItOK C G n sc tg k es i)(hb:StsK C G n sc b y):StK C G n sc (.for_ tg k es b) (.For t i y [] pos):=λ{F ρ A l σ s Q X} I w=>by
 refine wpAny_For ?_<|h2.fold F;refine j1 (t:=t) g w.1 h2 h1 I.toAt w.2 _ λII fp St al s1 H am Sr O m1 P r1 j au h=> ?_;have M:∀b∈fp,¬ownE F b:=λb hb q=>by obtain⟨o,e,o0⟩:=mX I.ev q;exact ns<|((j b hb).1).symm.trans e
 have ah:∀d∈l,∀L,d.frame=Ja L->L∉fp:=λd Y L hf q=>by
  obtain⟨o0,L',o',o0,o0,e1,o0,o0,e4,o0⟩:=I.ak.frs d Y;obtain rfl:=sj<|hf.symm.trans e1;exact ns<|((j L q).1).symm.trans e4
 refine codeAny_forLoop_any (λkk s'=>X3 λi z T=>kk=H.length-i+1/\ForAt C St F n A l (forGo am tg (λρ σ K=>wss G (aO C n) (aO C.un n) b ρ σ K λo0 o0 o0=>False) Q) H σ s i z T s') ?_ _
  ⟨0,ρ,al,rfl,⟨QY _,O,m1,I.ev.step P,P.own,r1,I.ak.step P,h⟩⟩
 clear O m1 h;intro kk s' hI;obtain⟨i,z,T,rfl,J⟩:=hI;have O:=J.st;have m':=J.m;have r:=J.ev;have D:=J.step;have r':=J.rest;have a:=J.ak;have h:=J.go;have hi:=J.le;clear J;have fo:=Sr.fok O;by_cases N:i<H.length
 ·have hx:H[i]? =Ja H[i]:=Qf N;rw[List.drop_eq_getElem_cons N] at h;obtain⟨af,h⟩:=h;obtain⟨av,ak,h⟩:=p5 h;refine Sr.item hx m' af O λv s1 ai=> ?_;refine ai _ _ λs2 hv m2 m ac r2=> ?_
  ·have aq:=r.mv m fo (λq=>M _ q<|.inl rfl) λy c Z q=>M _ q<|.inr ⟨y,Z⟩;have ar:=D.mv m (λc Z=>(j c Z).1);have U:=a.mv m (λd Y L hf q=>ah d Y L hf q);refine iN U.hd h1 aq m2 (p6 I.sr h1) hv ak λs3 R ao r3=> ?_;have W:=R.step I.ev ar;have an:=U.asg R;have ae:=Sr.mv ac R.mv R.fok λb hb q=>M b hb<|jf q;refine YC (hb ⟨⟨I.sr,ao,R.sim,an⟩,I.tf⟩ h) (λf s4 h4=> ?_) λo0 o0 x=>SX.none x;obtain⟨fl,ad,ab,f4,aa,m4,V,r4,B,h⟩:=h4;have u:=Sr.step ae V M
   induction fl with
   |next=>
    simp only[FR] at f4;subst f4;exact⟨H.length-(i+1)+1,vN N,i+1,ad,ab,rfl,⟨N,u,m4,aa,W.trans V,((r'.trans r2).trans r3).trans r4,B,h⟩⟩
   |ret p=>
    obtain⟨v4,rfl,ap⟩:=f4;exact⟨.ret p,ad,ab,⟨v4,rfl,ap⟩,aa,m4,W.trans V,((r'.trans r2).trans r3).trans r4,B,h⟩
 ·have aj:i=H.length:=Nat.le_antisymm hi<|Kd.mp N;subst aj;rw[List.drop_length] at h;refine Sr.done a.hd m' h.1 O λs2 m2 m r2=> ?_;refine JO ?_;exact⟨.next,z,T,rfl,r.mv m fo (λq=>M _ q<|.inl rfl)<|λy c Z q=>M _ q<|.inr ⟨y,Z⟩,m2,D.mv m<|λc Z=>(j c Z).1,r'.trans r2,a.mv m<|λd Y L hf q=>ah d Y L hf q,h.2⟩
end
end
section
variable{mg mb:Jq->Option Jf}{n:Nat}
def WS(n:Nat)(mg mb:Jq->Option Jf)(st:S):Prop:=∀ (C:Cx) (G:Gx),Todo C G n->Todo2 C G n->Todo C.un G.un n->Todo2 C.un G.un n->GOK C G mg mb->∀ (sc:Jk) (x:Jo),mS sc st x=Jc->StK C G n sc st x
def WSs(n:Nat)(mg mb:Jq->Option Jf)(s:List S):Prop:=∀ (C:Cx) (G:Gx),Todo C G n->Todo2 C G n->Todo C.un G.un n->Todo2 C.un G.un n->GOK C G mg mb->∀ (sc:Jk) (x:List Jo),mSs sc s x=Jc->StsK C G n sc s x
theorem lor(h:(!a||b)=Jc)(T:a=Jc):b=Jc:=by rw[T] at h;exact h
theorem bne7(h:(!(xk x==k))=Jc):xk x≠k:=λq=>by rw[q,beq_self_eq_true] at h;exact ft h
mutual
theorem Bt:∀st:S,WS n mg mb st
 | .assign (.name y) e=>λC G T Q X u g sc o0 h=>zR (P:=StK C G n sc (.assign (.name y) e)) h λo0 o0 o0 N Y=>xb T g N (and2 (and2 Y).1).1 (λq=>lor (and2 (and2 Y).1).2 (beq_iff_eq.mpr q)) (and2 Y).2
 | .assign (.tup xs) e=>λC G T Q X u g sc o0 h=>AM (P:=StK C G n sc (.assign (.tup xs) e)) h λo0 o0 o0 o0 o0 N Y=>yt N (and2 (and2 Y).1).1 (bne7 (and2 (and2 Y).1).2) (bP T g e _ _ (and2 Y).2).1
 | .setIdx o i e=>λC G T Q X u g sc o0 h=>pJ (P:=StK C G n sc (.setIdx o i e)) h λt v p N Y=>rE (P:=λt=>StK C G n sc (.setIdx o i e) (.Assign [t] v p)) N λo0 o0 o0 J O=>zd (and2 Y).1 (bP T g o _ _ J).1 (bP T g i _ _ O).1 (bP T g e _ _ (and2 Y).2).1
 | .expr e=>λC G T Q X u g sc o0 h=>zy (P:=StK C G n sc (.expr e)) h λo0 o0 h=>wu (Ui (and2 h).1) (bP T g e _ _ (and2 h).2).1
 | .ret e=>λC G T Q X u g sc o0 h=>AP (P:=StK C G n sc (.ret e)) h λo0 o0 h=>yI (bP T g e _ _ h).1
 | .if_ t b o=>λC G T Q X u g sc o0 h=>BY (P:=StK C G n sc (.if_ t b o)) h λo0 o0 o0 o0 N Y J=>BG (bP T g t _ _ N).2 (ia b C G T Q X u g _ _ Y) (ia o C G T Q X u g _ _ J)
 | .for_ tg k V b=>λC G T Q X u g sc o0 h=>Bz (P:=StK C G n sc (.for_ tg k V b)) h λo0 o0 o0 o0 N Y J=>zu g N (.of Y<|dw T g V _)<|ia b C G T Q X u g _ _ J
 | .while_ t b=>λC G T Q X u g sc o0 h=>wm (P:=StK C G n sc (.while_ t b)) h λo0 o0 o0 N Y=>Q.while_ (bP T g t _ _ N).2 (ia b C G T Q X u g _ _ Y)
 | .raise c args=>λC G T Q X u g sc o0 h=>xf (P:=StK C G n sc (.raise c args)) h λv q h=>uj (P:=λv=>StK C G n sc (.raise c args) (.Raise (Ja v) Jb q)) h λo0 o0 o0 N Y J=>λI w=>Q.raise (g.full w.1.1) (g.calm w.1.2.1) N Y (Uf (and2 J).2) (dw T g args _ _ (and2 J).1) I w
 | .try1 b c x h=>λC G T Q X u g sc o0 m=>AC (P:=StK C G n sc (.try1 b c x h)) m λo0 o0 o0 o0 o0 o0 o0 N Y J O=>λI w=>Q.try1 (g.full w.1.1) (g.calm w.1.2.1) Y J (ia b C G T Q X u g _ _ N) (ia h _ _ X u X u g.un _ _ O) I w
theorem ia:∀s:List S,WSs n mg mb s
 |[]=>λC G T Q X u g o0 xs h=>by
  rcases xs with o0|⟨o0,o0⟩
  ·exact xV
  ·exact ft h
 |a::r=>λC G T Q X u g o0 xs h=>by
  rcases xs with o0|⟨x,xs⟩
  ·exact ft h
  ·exact vI (Bt a C G T Q X u g _ _ (and2 h).1)<|ia r C G T Q X u g _ _ (and2 h).2
end
end
section
variable{M:Model}{A:Jj}{E:Jf->Je->Prop}{s:Je}
noncomputable def frsOf(l:List Js):List Jg:=l.filterMap (·.frame)
structure Noted(l:List Js)(e:Jg)(oe:Jp)(vs:Array Jf)(fo:Option Jg)(F:Jg->Prop)(h h':Ji):Prop where
 same:∀b o,¬F b->b∉frsOf l->h.get? b=Ja o->h'.get? b=Ja o
 slots:∀b o,¬F b->h.get? b=Ja o->∃sl,h'.get? b=Ja {o with slots:=sl}
 exc:∃T oT ts o' vs',(h.get? T=Jb\/(F T/\vs[1]? =Ja (.ref T)))/\T≠e/\h'.get? e=Ja o'/\o'.cls=oe.cls/\o'.dict=oe.dict/\o'.data= .fields vs'/\vs'[1]? =Ja (.ref T)/\vs'[2]? =vs[2]? /\
  h'.get? T=Ja oT/\oT.data= .fields ts/\ts[3]? =Ja (fo.elim Value.none λf=>Jy f)
 alive:∀b,F b->(∃o,h.get? b=Ja o)->∃o,h'.get? b=Ja o
theorem sq{o:Jp}(f:Array Jf->Array Jf):(o.mapFields f).dict=o.dict:=by
 obtain⟨c,d,t,l⟩:=o;rcases t with⟨⟩<;>rfl
theorem lV{o W:Jp}{vs ts:Array Jf}{fo:Option Jg}{Q:Unit->Je->Prop}(O:s.heap.get? e=Ja o)(v:o.data= .fields vs)(N:vs[1]? =Ja (.ref T))(Y:s.heap.get? T=Ja W)(d:W.data= .fields ts)(J:3<ts.size)
  (h:Q () {s with heap:=s.heap.update T (Obj.mapFields (·.setIfInBounds 3 (fo.elim Value.none λf=>Jy f)))}):Jh M A (JW (.ref e) fo) Q E s:=by
 unfold JW;refine YA<|YD O v N ?_;rw[Uh (show(Value.ref T !=Value.none)=Jc from by simp)];exact JH Y d J h
theorem oU{env:Js}{oe:Jp}{vs:Array Jf}{Q:Unit->Je->Prop}
  (hfr:A.frames=Ja (env::outer))(hl:s.heap.FunFrames base (env::outer))(hf:env.frame=Ja L)(he:s.heap.get? e=Ja oe)(hd:oe.data= .fields vs)(hsz:1<vs.size)
  (hK:∀s' o' vs' T,s'.heap.get? e=Ja o'->o'.data= .fields vs'->vs'[1]? =Ja (.ref T)->Jh M A (JW (.ref e) fo) Q E s'->Jh M A K Q E s')
  (h:∀h',Noted (env::outer) e oe vs fo (· =e) s.heap h'->Q () {s with heap:=h'}):
  Jh M A (do let a<-frameOf env;let pl<-entryPlaceOf L hadNext;let b<-EntryCells.newEntry head a .none (Jy L) .none pl;setField (.ref e) 1 b) (λo0 s'=>Jh M A K Q E s') E s:=by
 have hene:e∉frsOf (env::outer):=λhm=>by
  obtain⟨o0,o,ho,hnf⟩:=hl.mem hm;rw[he] at ho;injection ho with ho;subst ho;exact hnf vs hd
 refine YA (wpAny_frameOf_fun hfr hl hf λh1 hs1=> ?_);refine YA (wpAny_entryPlaceOf λpl hpl=> ?_);unfold EntryCells.newEntry newFields;refine YA<|wpAny_newObj_type ?_ (hpl.sizeOk5 _ _ _ _ _);generalize hob:({cls:= .type "traceback",dict:=Jb,data:= .fields ([head,.ref L,.none,Jy L,.none]++(if pl.isEmpty then List.replicate 6 Value.none else pl)).toArray}:Jp)=ob;have hod:ob.data= .fields ([head,.ref L,.none,Jy L,.none]++(if pl.isEmpty then List.replicate 6 Value.none else pl)).toArray:=by rw[<-hob]
 have hfb:ob.isFreed=Jd:=by rw[<-hob];rfl
 have he1:h1.get? e=Ja oe:=(hs1.2.1 e hene).trans he;have he2:=Qm (h:=h1) ob he1;refine JH he2 hd hsz ?_;have hTe:h1.objs.size≠e:=KL<|QH he1;have hd3:=Obj.data_mapFields hd (·.setIfInBounds 1 (Value.ref h1.objs.size));have he3:=Ka (Obj.mapFields (·.setIfInBounds 1 (Value.ref h1.objs.size))) he2<|Obj.isFreed_of_fields hd3;have hT3:=(Km (h1.push ob) (Obj.mapFields (·.setIfInBounds 1 (Value.ref h1.objs.size)))<|Ne.symm hTe).trans (QG h1 hfb);have h3s:3<(([head,.ref L,.none,Jy L,.none]++(if pl.isEmpty then List.replicate 6 Value.none else pl)).toArray:Array Jf).size:=by
  simp only[List.size_toArray,QJ,Wi,WD];exact zll (by decide)<|QV _ _
 have hv1:(vs.setIfInBounds 1<|Value.ref h1.objs.size)[1]? =Ja (.ref h1.objs.size):=by rw[Wb hsz]
 refine hK _ _ _ _ he3 hd3 hv1<|lV he3 hd3 hv1 hT3 hod h3s (h _ ?_);have hdT:=Obj.data_mapFields hod (·.setIfInBounds 3 (fo.elim Value.none λf=>Jy f));have keep:∀b o,b≠e->h1.get? b=Ja o->
   (((h1.push ob).update e (Obj.mapFields (·.setIfInBounds 1 (Value.ref h1.objs.size)))).update h1.objs.size
    (Obj.mapFields (·.setIfInBounds 3 (fo.elim Value.none λf=>Jy f)))).get? b=Ja o:=λb o hbe hb=>by
  have hbT:h1.objs.size≠b:=KL<|QH hb;rw[Km _ _ hbT,Km _ _ (Ne.symm hbe)];exact Qm _ hb
 have hee:(((h1.push ob).update e (Obj.mapFields (·.setIfInBounds 1 (Value.ref h1.objs.size)))).update h1.objs.size
    (Obj.mapFields (·.setIfInBounds 3 (fo.elim Value.none λf=>Jy f)))).get? e=Ja (oe.mapFields (·.setIfInBounds 1 (.ref h1.objs.size))):=by
  rw[Km _ _ hTe];exact he3
 refine⟨λb o hb hm e1=>keep b o hb ((hs1.2.1 b hm).trans e1),λb o hb e1=> ?_,⟨h1.objs.size,_,_,_,_,.inl ?_,hTe,hee,Obj.cls_mapFields _ _,sq _,hd3,hv1,?_,Ka _ hT3 (Obj.isFreed_of_fields hdT),hdT,?_⟩,λb hb o0=>by
  have hb:b=e:=hb;subst hb;exact⟨_,hee⟩⟩
 ·obtain⟨sl,q⟩:=hs1.2.2 b o e1;exact⟨sl,keep b _ hb q⟩
 ·induction q:s.heap.get? h1.objs.size with
  |none=>rfl
  |some o=>obtain⟨sl,w⟩:=hs1.2.2 _ o q;exact absurd (QH w)<|KG _
 ·rw[Array.getElem?_setIfInBounds_ne (by decide)]
 ·show(Array.setIfInBounds _ 3<|fo.elim Value.none λf=>Jy f)[3]? =Ja _;rw[Wb h3s]
theorem xE{env:Js}{oe:Jp}{Q:Unit->Je->Prop}
  (hfr:A.frames=Ja (env::outer))(hl:s.heap.FunFrames base (env::outer))(hf:env.frame=Ja L)(he:s.heap.get? e=Ja oe)(hd:oe.data= .fields vs)
  (hK:∀s' o' vs' T,s'.heap.get? e=Ja o'->o'.data= .fields vs'->vs'[1]? =Ja (.ref T)->Jh M A (JW (.ref e) fo) Q E s'->Jh M A K Q E s')
  (hv:vs[1]? =Ja .none\/∃T oT ts,vs[1]? =Ja (.ref T)/\T≠e/\s.heap.get? T=Ja oT/\oT.data= .fields ts/\(ts[3]? =Ja .none\/ts[3]? =Ja (Jy L)))
  (h:∀h',Noted (env::outer) e oe vs fo (λb=>b=e\/vs[1]? =Ja (.ref b)) s.heap h'->Q () {s with heap:=h'}):
  Jh M A (noteFrame (.ref e) env) (λo0 s'=>Jh M A K Q E s') E s:=by
 unfold noteFrame;simp only[hf]
 rcases hv with h1|⟨T,oT,ts,h1,hTe,hT,hdT,h3|h3⟩
 ·refine YA<|YD he hd h1 ?_;rw[Ug (by decide)];refine oU hfr hl hf he hd (KD.mp h1).1 hK λh' N=>h h' ⟨λb o hb=>N.same b o λq=>hb<|.inl q,λb o hb=>N.slots b o λq=>hb<|.inl q,?_,λb hb=> ?_⟩
  ·obtain⟨T',oT',ts',o',vs',q1,q2⟩:=N.exc;exact⟨T',oT',ts',o',vs',q1.imp id λz=>⟨.inl z.1,z.2⟩,q2⟩
  ·rcases hb with hb|hb
   ·exact N.alive b hb
   ·rw[h1] at hb;cases hb
 ·refine YA<|YD he hd h1 ?_;rw[Uh (show(Value.ref T !=Value.none)=Jc from by simp)];refine YA<|YD hT hdT h3 ?_;rw[Ug (show ¬ ((Value.none==Jy L)=Jc) from by simp[Jy])];refine YA<|wpAny_setField hT hdT (KD.mp h3).1 ?_;have other:∀b,b≠T->(s.heap.update T (Obj.mapFields (·.setIfInBounds 3 Value.none))).get? b=s.heap.get? b:=λb hb=>Km _ _<|Ne.symm hb;have noRecord:∀b o,s.heap.get? b=Ja o->(∀vs,o.data≠ .fields vs)->b≠T:=λb o hb hnf q=>by
   rw[q,hT] at hb;injection hb with hb;subst hb;exact hnf ts hdT
  refine oU hfr (hl.of_keeps λb o hb hnf=>⟨o,(other b<|noRecord b o hb hnf).trans hb,rfl⟩) hf ((other e<|Ne.symm hTe).trans he) hd (KD.mp h1).1 hK λh' N=>h h' ?_;have hTu:(s.heap.update T (Obj.mapFields (·.setIfInBounds 3 Value.none))).get? T=Ja (oT.mapFields (·.setIfInBounds 3 Value.none)):=Ka _ hT<|Obj.isFreed_of_fields (Obj.data_mapFields hdT _);refine⟨λb o hb hm e1=>N.same b o (λq=>hb<|.inl q) hm<|(other b λq=>hb<|.inr (by rw[q];exact h1)).trans e1,λb o hb e1=>N.slots b o (λq=>hb<|.inl q)<|(other b λq=>hb<|.inr (by rw[q];exact h1)).trans e1,?_,λb hb ho=> ?_⟩
  ·obtain⟨T',oT',ts',o',vs',q1,q2⟩:=N.exc;refine⟨T',oT',ts',o',vs',.inl ?_,q2⟩
   rcases q1 with q1|q1
   ·rw[<-other T' λq=>by rw[q,hTu] at q1;exact sn q1];exact q1
   ·exact absurd q1.1 q2.1
  ·rcases hb with hb|hb
   ·exact N.alive b hb<|by subst hb;exact⟨_,(other b<|Ne.symm hTe).trans he⟩
   ·rw[h1] at hb;cases hb;obtain⟨sl,q⟩:=N.slots T _ hTe hTu;exact⟨_,q⟩
 ·refine YA<|YD he hd h1 ?_;rw[Uh (show(Value.ref T !=Value.none)=Jc from by simp)];refine YA<|YD hT hdT h3 ?_;rw[Uh (show((Jy L==Jy L)=Jc) from beq_self_eq_true _)];refine YB ?_;have h3s:=(KD.mp h3).1;refine hK _ _ _ _ he hd h1<|lV he hd h1 hT hdT h3s (h _ ?_);have hdT':=Obj.data_mapFields hdT (·.setIfInBounds 3 (fo.elim Value.none λf=>Jy f));have other:∀b,b≠T->(s.heap.update T (Obj.mapFields (·.setIfInBounds 3 (fo.elim Value.none λf=>Jy f)))).get? b=s.heap.get? b:=λb hb=>Km _ _<|Ne.symm hb;have hTu:=Ka (Obj.mapFields (·.setIfInBounds 3 (fo.elim Value.none λf=>Jy f))) hT<|Obj.isFreed_of_fields hdT';refine⟨λb o hb o0 e1=>(other b λq=>hb<|.inr (by rw[q];exact h1)).trans e1,λb o hb e1=>⟨o.slots,(other b λq=>hb<|.inr (by rw[q];exact h1)).trans e1⟩,⟨T,_,_,oe,vs,.inr ⟨.inr h1,h1⟩,hTe,(other e<|Ne.symm hTe).trans he,rfl,rfl,hd,h1,rfl,hTu,hdT',?_⟩,λb hb ho=> ?_⟩
  ·rw[Wb h3s]
  ·obtain⟨o,eo⟩:=ho;by_cases q:b=T
   ·subst q;exact⟨_,hTu⟩
   ·exact⟨o,(other b q).trans eo⟩
end
section
variable{C:Cx}{σ:PH}{A:Jj}{Er:Jf->Je->Prop}{s:Je}{l:List Js}
theorem Noted.facts{F:Jg->Prop}{W:Ji}{S:Jg->Prop}{h₀:Ji}(N:Noted l e g vs fo F s.heap W)(m:Sim C σ s.heap)(r:Frs C σ s.heap l)
  (J:∀b,F b->C.B.get? b=Jb/\σ b=Jb/\h₀.get? b=Jb/\∀o,s.heap.get? b=Ja o->∃vs,o.data= .fields vs)(st:Step S B h₀ σ s.heap):
  Sim C σ W/\Step S B h₀ σ W/\(∀b o,¬F b->s.heap.get? b=Ja o->∃o',W.get? b=Ja o'/\Like o o'):=by
 have Q:∀b,b∈frsOf l->σ b=Jb/\C.B.get? b=Jb/\X3 λo U n=>s.heap.get? b=Ja o/\o.data= .dict U n:=λb h=>by
  obtain⟨Y,O,q⟩:=List.mem_filterMap.mp h;obtain⟨o0,L,o,U,n,T,j,X,u,V⟩:=r Y O;obtain rfl:=sj<|q.symm.trans T;exact⟨X,j,o,U,n,u,V⟩
 have y:∀b o,¬F b->s.heap.get? b=Ja o->∃o',W.get? b=Ja o'/\Like o o':=λb o h T=>by
  by_cases v:b∈frsOf l
  ·obtain⟨o0,o0,P,U,n,j,X⟩:=Q b v;obtain rfl:=sj<|T.symm.trans j;obtain⟨I,q⟩:=N.slots b o h T;exact⟨_,q,rfl,rfl,rfl,λk=>absurd X<|k U n⟩
  ·exact⟨o,N.same b o h v T,.refl o⟩
 have H:∀b o,s.heap.get? b=Ja o->∃o',W.get? b=Ja o':=λb o T=>by
  by_cases h:F b
  ·exact N.alive b h ⟨o,T⟩
  ·obtain⟨o',q,o0⟩:=y b o h T;exact⟨o',q⟩
 have t:Step S B h₀ σ W:=by
  refine⟨λb o T j=> ?_,st.grow,st.fix,λb T=> ?_⟩
  ·obtain⟨c,o',Z,K⟩:=st.keep b o T j;have h:¬F b:=λf=>by exact ns (((J b f).2.2.1).symm.trans T)
   obtain⟨P,z,G⟩:=y b o' h Z;exact⟨c,P,z,λk=>(K k).trans G⟩
  ·refine st.live b ?_
   induction q:s.heap.get? b with
   |none=>rfl
   |some o=>obtain⟨o',w⟩:=H b o q;exact ns<|T.symm.trans w
 have M:Step F σ s.heap σ W:=by
  refine⟨λb o T j=> ?_,λb o T=>⟨o,T⟩,λb o T o0=>T,λb T=> ?_⟩
  ·by_cases h:F b
   ·obtain⟨o',w⟩:=N.alive b h ⟨o,T⟩;exact⟨j,o',w,λk=>by obtain⟨x,n,q⟩:=k h;obtain⟨vs,Z⟩:=(J b h).2.2.2 o T;rw[q] at Z;cases Z⟩
   ·obtain⟨o',w,q⟩:=y b o h T;exact⟨j,o',w,λo0=>q⟩
  ·induction q:s.heap.get? b with
   |none=>rfl
   |some o=>obtain⟨o',w⟩:=H b o q;exact ns<|T.symm.trans w
 have same:∀b o,¬F b->b∉frsOf l->s.heap.get? b=Ja o->W.get? b=Ja o:=N.same;refine⟨m.step M (λa o T=> ?_)<|λb o T=> ?_,t,y⟩
 ·obtain⟨R,j,o0⟩:=m.objs a o T;rw[j];exact same a R (λf=>by exact ns<|((J a f).2.1).symm.trans T) (λf=>by exact ns<|((Q a f).1).symm.trans T) j
 ·exact same b o (λf=>by exact ns<|((J b f).1).symm.trans T) (λf=>by exact ns<|((Q b f).2.1).symm.trans T)<|m.base b o T
theorem jM{own fo:Option Jg}{env:Js}{S:Jg->Prop}{Q:Unit->Je->Prop}(ad:A.frames=Ja (env::t))(fr:Frs C σ s.heap (env::t))(hf:env.frame=Ja L)(m:Sim C σ s.heap)
  (f:Fly C own x e σ h₀ s.heap)(ho:∀Z,own=Ja Z->Z=L)(st:Step S B h₀ σ s.heap)
  (hK:∀a s' o' U T,e= .ref a->s'.heap.get? a=Ja o'->o'.data= .fields U->U[1]? =Ja (.ref T)->Jh (Mo C) A (JW e fo) Q Er s'->Jh (Mo C) A K Q Er s')
  (h:∀W,Sim C σ W->Fly C fo x e σ h₀ W->Step S B h₀ σ W->(∃F:Jg->Prop,Step F σ s.heap σ W/\∀b o,F b->s.heap.get? b=Ja o->∃vs,o.data= .fields vs)->(X6 λa oe vs T I ts=>A8 (e= .ref a) (W.get? a=Ja oe) (oe.data= .fields vs) (vs[1]? =Ja (.ref T)) (T≠a) (W.get? T=Ja I) (I.data= .fields ts)<|ts[3]? =Ja (fo.elim Value.none λf=>Jy f))->Q () {s with heap:=W}):
  Jh (Mo C) A (noteFrame e env) (λo0 s'=>Jh (Mo C) A K Q Er s') Er s:=by
 obtain⟨a,o,vs,k,rfl,D,q3,q4,q5,q6,q7,q8,q9,J,ac⟩:=f;refine xE ad fr.fun hf q5 q8 (λs' o' U T=>hK a s' o' U T rfl) (J.imp id λhq=>by obtain⟨T,I,ts,v,X,H,E,V,j,y,w8⟩:=hq;exact⟨T,I,ts,v,X,j,y,w8.imp id λz'=>by obtain⟨Z,z1,z2⟩:=z';rw[<-ho Z z1];exact z2⟩) λW N=> ?_;have Y:∀b,(b=a\/vs[1]? =Ja (.ref b))->C.B.get? b=Jb/\σ b=Jb/\h₀.get? b=Jb/\∀o,s.heap.get? b=Ja o->∃vs,o.data= .fields vs:=λb R=>by
  rcases R with rfl|R
  ·exact⟨D,q3,q4,λo' e'=>by obtain rfl:=sj<|q5.symm.trans e';exact⟨vs,q8⟩⟩
  ·rcases J with J|⟨T,I,ts,v,X,H,E,V,j,y,w8⟩
   ·rw[J] at R;cases R
   ·rw[v] at R;cases R;exact⟨H,E,V,λo' e'=>by obtain rfl:=sj<|j.symm.trans e';exact⟨ts,y⟩⟩
 obtain⟨m',aa,lk⟩:=N.facts m fr Y st;have ab:∀b o,s.heap.get? b=Ja o->(∀vs,o.data≠ .fields vs)->¬ (b=a\/vs[1]? =Ja (.ref b)):=λb o P e2 f=>by
  obtain⟨vs,e3⟩:=(Y b f).2.2.2 o P;exact e2 vs e3
 have stF:Step (λb=>b=a\/vs[1]? =Ja (.ref b)) σ s.heap σ W:=by
  refine⟨λb O P e2=> ?_,λb o P=>⟨o,P⟩,λb o P o0=>P,λb P=> ?_⟩
  ·by_cases R:b=a\/vs[1]? =Ja (.ref b)
   ·obtain⟨o',w⟩:=N.alive b R ⟨O,P⟩;exact⟨e2,o',w,λk=>by obtain⟨xs,n,q⟩:=k R;obtain⟨vs,D⟩:=(Y b R).2.2.2 O P;rw[q] at D;cases D⟩
   ·obtain⟨o',w,q⟩:=lk b O R P;exact⟨e2,o',w,λo0=>q⟩
  ·induction q:s.heap.get? b with
   |none=>rfl
   |some O=>
    by_cases R:b=a\/vs[1]? =Ja (.ref b)
    ·obtain⟨o',w⟩:=N.alive b R ⟨O,q⟩;exact ns<|P.symm.trans w
    ·obtain⟨o',w,o0⟩:=lk b O R q;exact ns<|P.symm.trans w
 refine h W m' ?_ aa ⟨_,stF,λb o f P=>(Y b f).2.2.2 o P⟩ ?_
 rotate_left
 ·obtain⟨T,I,ts,o',U,v,X,H,E,V,j,y,w8,w9,M,G⟩:=N.exc;exact⟨a,_,_,T,I,ts,rfl,H,j,y,X,w9,M,G⟩
 obtain⟨T,I,ts,o',U,v,X,H,E,V,j,y,w8,w9,M,G⟩:=N.exc;have c:C.B.get? T=Jb/\σ T=Jb/\h₀.get? T=Jb:=by
  rcases v with v|⟨v,o0⟩
  ·refine⟨?_,?_,st.live T v⟩
   ·induction q:C.B.get? T with
    |none=>rfl
    |some o=>exact sn<|(m.base T o q).symm.trans v
   ·induction q:σ T with
    |none=>rfl
    |some o=>obtain⟨O,P,o0⟩:=m.objs T o q;exact ns<|v.symm.trans P
  ·exact⟨(Y T v).1,(Y T v).2.1,(Y T v).2.2.1⟩
 refine⟨a,_,_,k,rfl,D,q3,q4,H,q6,E.trans q7,j,w8.trans q9,.inr ⟨T,I,ts,y,X,c.1,c.2.1,c.2.2,w9,M,?_⟩,?_⟩
 ·induction fo with
  |none=>exact .inl G
  |some Z=>exact .inr ⟨Z,rfl,G⟩
 ·rw[V]
  induction ac with
  |no f e=>exact .no f e
  |at_ f d od e b n z g r=>
   obtain⟨es,ep,r1,r2,r3,r4⟩:=r;obtain⟨o',g',ae⟩:=lk d od (ab d od g λvs q=>by rw[r1] at q;cases q) g;exact .at_ f d o' e b n z g' ⟨es,ep,ae.2.2.1.trans r1,r2,λi f p h1 h2=>by obtain⟨u,a,b⟩:=r3 i f p h1 h2;exact⟨u,a,VR.step stF _ _ b⟩,r4⟩
theorem us{own:Option Jg}{env:Js}{S:Jg->Prop}{Q:Unit->Je->Prop}(r:A.frames=Ja (env::o))(O:Frs C σ s.heap (env::o))(w:env.frame=Ja L)(m:Sim C σ s.heap)
  (f:Fly C own x e σ h₀ s.heap)(d:∀Z,own=Ja Z->Z=L)(st:Step S B h₀ σ s.heap)
  (h:∀W,Sim C σ W->Fly C Jb x e σ h₀ W->Step S B h₀ σ W->Q () {s with heap:=W}):
  Jh (Mo C) A (leaving env e) Q Er s:=by
 unfold leaving;exact YA<|jM (K:=JW e Jb) r O w m f d st (λo0 o0 o0 o0 o0 o0 o0 o0 o0 z=>z) λW a b c o0 o0=>h W a b c
end
section
set_option backward.match.sparseCases true
noncomputable def rho0(ps l:List String)(args:List PV):Rho:=ps.zip (args.map Ja)++l.map λx=>(x,Jb)
theorem lZ{l:List String}{P:Prop}(h:Rho.get (l.map λx=>(x,Jb)) x=Ja p):P:=by
 induction l with
 |nil=>exact ns h
 |cons y r i=>
  have h:(if y=x then Jb else Rho.get (r.map λx=>(x,Jb)) x)=Ja p:=h;by_cases e:y=x
  ·exact ns<|(Uh e).symm.trans h
  ·exact i<|(Ug e).symm.trans h
theorem oh{args:List PV}:(rho0 ps l args).get x=Ja p->∃i:Nat,ps[i]? =Ja x/\args[i]? =Ja p:=by
 induction ps generalizing args with
 |nil=>exact λh=>lZ h
 |cons q ps W=>
  rcases args with o0|⟨a,args⟩
  ·exact λh=>lZ h
  intro h;have h:(if q=x then Ja a else(rho0 ps l args).get x)=Ja p:=h;by_cases e:q=x
  ·rw[e,<-sj ((Uh e).symm.trans h)];exact⟨0,rfl,rfl⟩
  ·obtain⟨i,N,Y⟩:=W<|(Ug e).symm.trans h;exact⟨i+1,N,Y⟩
section
variable{k:Jq->Option J0}
theorem pr:∀ (b:List (Jq×Jf)) (m:Jq->Option Jf) (x:Jq),x∉b.map (·.1)->bindL k b m x=m x
 |[]=>λm x h=>rfl
 |(n,v)::r=>λm x h=>by
  simp only[Qo,Qx,not_or] at h;unfold bindL;rw[pr r _ x h.2]
  split
  ·exact Ug h.1
  ·rfl
theorem ov:∀ (b:List (Jq×Jf)) (m:Jq->Option Jf) (x:Jq),x∉b.map (·.1)->PySem.bindC k b m x=m x
 |[]=>λm x h=>rfl
 |(n,v)::r=>λm x h=>by
  simp only[Qo,Qx,not_or] at h;unfold PySem.bindC;rw[ov r _ x h.2]
  split
  ·rfl
  ·exact Ug h.1
theorem kZ:∀ (ns:List Jq) (vs:List Jf) (m:Jq->Option Jf) (i:Nat) (x:Jq) (v:Jf),ns.Nodup->ns[i]? =Ja x->vs[i]? =Ja v->k x=Ja .local->bindL k (ns.zip vs) m x=Ja v
 |[],_=>λo0 i x v o0 h o0 o0=>by simp at h
 |_::_,[]=>λo0 i x v o0 o0 h o0=>by simp at h
 |n::ns,w::vs=>λm i x v d N Y M=>by
  rw[Qz] at d;simp only[Wz];unfold bindL
  induction i using Nat.casesOn with
  |zero=>
   simp at N Y;subst N Y;rw[pr _ _ _ (by rintro q;obtain⟨p,D,e⟩:=Ql.mp q;have:=(Kr (show(p.1,p.2)∈_ from D)).1;rw[e] at this;exact d.1 this),Uh M,Uh rfl]
  |succ j=>exact kZ ns vs _ j x v d.2 (by simpa using N) (by simpa using Y) M
theorem pk:∀ (ns:List Jq) (vs:List Jf) (m:Jq->Option Jf) (i:Nat) (x:Jq) (v:Jf),ns.Nodup->ns[i]? =Ja x->vs[i]? =Ja v->k x=Ja .cell->PySem.bindC k (ns.zip vs) m x=Ja v
 |[],_=>λo0 i x v o0 h o0 o0=>by simp at h
 |_::_,[]=>λo0 i x v o0 o0 h o0=>by simp at h
 |n::ns,w::vs=>λm i x v d N Y M=>by
  rw[Qz] at d;simp only[Wz];unfold PySem.bindC
  induction i using Nat.casesOn with
  |zero=>
   simp at N Y;subst N Y;rw[ov _ _ _ (by rintro q;obtain⟨p,D,e⟩:=Ql.mp q;have:=(Kr (show(p.1,p.2)∈_ from D)).1;rw[e] at this;exact d.1 this),Ug<|by rw[M];simp,Uh rfl]
  |succ j=>exact pk ns vs _ j x v d.2 (by simpa using N) (by simpa using Y) M
end
structure FnIn(B:Ji)(ps:List String)(a:Jg)(o:Jp)(fd:Jr)(body:List Jo):Prop where
 ho:B.get? a=Ja o
 hd:o.data= .func fd
 cd:B.CodeRec fd.code fd.qualname
 hb:fd.body= .stmts body
 clo:fd.closure=[]
 glb:fd.globals=JB
 blt:fd.builtins=builtinsNs
 bind:∀vals:List Jf,vals.length=ps.length->Y5 fd ⟨vals,[]⟩=pure ((ps.map Qb).zip vals)
 par:(ps.all λp=>fd.scope.names.lookup (Qb p)==Ja .local||fd.scope.names.lookup (Qb p)==Ja .cell)=Jc
 nd:ps.Nodup
 co:fd.scope.isCoroutine=Jd
 gen:fd.scope.isGenerator=Jd
 kind:fd.scope.kind= .function
 free:(fd.scope.names.all λp=>p.2 != .free)=Jc
theorem FnIn.keeps{B e:Ji}(F:FnIn B ps a o f body)(kp:∀b o,B.get? b=Ja o->e.get? b=Ja o):FnIn e ps a o f body:=
 ⟨kp _ _ F.ho,F.hd,F.cd.keeps kp,F.hb,F.clo,F.glb,F.blt,F.bind,F.par,F.nd,F.co,F.gen,F.kind,F.free⟩
structure FnAt(C:Cx)(f:String)(ps:List String)(sts:List S)(a:Jg)(o:Jp)(fd:Jr)(body:List Jo):Prop extends FnIn C.B ps a o fd body where
 fv:C.fv f=Ja (.ref a)
 kp:Kp C (.ref a)
 mat:mSs fd.scope sts body=Jc
section
variable{C:Cx}{G:Gx}{mg mb:Jq->Option Jf}{n:Nat}
theorem cL{l:List String}(h:l.Nodup):(l.map Qb).Nodup:=by
 induction l with
 |nil=>exact List.nodup_nil
 |cons x r i=>
  rw[Qz] at h;rw[Qo,Qz];exact⟨λq=>by obtain⟨y,W,e⟩:=Ql.mp q;rw[ofString_inj e] at W;exact h.1 W,i h.2⟩
theorem oy(g:GOK C G mg mb){ps:List String}{d:Jr}(F:FnIn C.B ps a o d body){args:List PV}(ls:List String)(u:args.length=ps.length){A:Jj}{s:Je}(H:AOK C (n+1) A l σ s.heap)(m:Sim C σ s.heap)(hv:VRs C σ s.heap args vs){R:Result->Je->Prop}
  (k:∀env s₁,ScR d.scope env->EnvR C env (rho0 ps ls args) σ s₁.heap->Sim C σ s₁.heap->Step none1 σ s.heap σ s₁.heap->Rest s s₁->AOK C n (A.deeper env) (env::l) σ s₁.heap->env.frame=Ja env.locals->env.locals=s.heap.objs.size->(∀x c,env.cells.lookup x=Ja c->s.heap.objs.size<=c)->
   (∀ {σ':PH} {s':Je},Step (ownE env) σ s₁.heap σ' s'.heap->Step none1 σ s.heap σ' s'.heap)->
   Jh (Mo C) (A.deeper env) (execs body env) (λf s'=>R (.ok (.ret (match f with| .ret v=>v|_=> .none))) s') (λe s'=>Jh (Mo C) (A.deeper env) (leaving env e) (λo0 W=>R (.error e) W) (λe' W=>R (.error e') W) s') s₁):codeAny (Mo C) A (.call (.ref a) ⟨vs,[]⟩) R s:=by
 have V:vs.length=ps.length:=hv.length.trans u;have B:A.depth<J7:=by have:=H.depth;exact zl (zle (QV _ _)<|QV _ _) this
 have X:∀p∈ps,d.scope.names.lookup (Qb p)=Ja .local\/d.scope.names.lookup (Qb p)=Ja .cell:=λp U=>by
  have:=Qy.mp F.par p U;simpa [WW] using this
 refine codeAny_call_cells B (m.base _ _ F.ho) F.hd (g.nolimit.keeps m.base) (F.cd.keeps m.base) F.hb (F.bind vs V) F.clo (λx hx=> ?_) (λs₁ r=> ?_) F.co F.gen F.kind
 ·have M:x.1∈ps.map Qb:=(Kr (show(x.1,x.2)∈_ from hx)).1;obtain⟨p,U,e⟩:=Ql.mp M;rw[<-e];refine(X p U).imp id λq=>⟨q,?_⟩
  obtain⟨c,o0,Z⟩:=fD d.scope.names (s.heap.objs.size+1) [] _ (Jw q);rw[Z];rfl
 generalize O:callEnvC d s.heap.objs.size a=env at r ⊢;have Y:env.locals=s.heap.objs.size:=by rw[<-O];rfl
 have T:∀x,env.kindOf x=d.scope.names.lookup x:=λx=>by rw[<-O];rfl
 have E:env.cells=JS (s.heap.objs.size+1) d.scope.names []:=by rw[<-O];rfl
 have z:∀x c,env.cells.lookup x=Ja c->s.heap.objs.size<=c:=λx c h=>by
  have:=r.above x c<|mem_of_lookup h;rw[Y] at this;exact KW this
 have kp:∀b o,s.heap.get? b=Ja o->s₁.heap.get? b=Ja o:=r.toInCall.keep;have P:Step none1 σ s.heap σ s₁.heap:= .more kp;have m1:Sim C σ s₁.heap:=m.more kp;have r1:Rest s s₁:=by obtain⟨h',tk,e⟩:=r.toInCall.same;rw[e];exact⟨rfl,rfl⟩
 have K:=hv.step P;have ev:EnvR C env (rho0 ps ls args) σ s₁.heap:=by
  refine⟨by rw[<-O];exact F.kind,by rw[<-O];exact F.glb,by rw[<-O];exact F.blt,⟨_,r.toInCall.ns,λx p L w=> ?_⟩,λx p L w=> ?_,by rw[Y];exact m.fresh (QA _),by rw[Y];exact m.freshB (QA _),
   λx c h=>m.freshB (z x c h),λx c h=>⟨m.fresh (z x c h),_,r.cell x c h⟩,λx y c D Q=>name_of_addr r.apart (Jw D) (Jw Q),λx h=> ?_⟩
  ·obtain⟨i,D,Q⟩:=oh L;obtain⟨v,J,I⟩:=K.get i p Q;refine⟨v,kZ _ _ _ i _ v (cL F.nd) (by rw[Qw,D];rfl) J w,I⟩
  ·obtain⟨i,D,Q⟩:=oh L;obtain⟨v,J,I⟩:=K.get i p Q;have t:env.kindOf (Qb x)=Ja .cell:=w.resolve_right λq=>by
    rw[T] at q;have:=Qy.mp F.free _<|mem_of_lookup q;simp at this
   obtain⟨c,o0,Z⟩:=fD d.scope.names (s.heap.objs.size+1) [] _ (Jw<|by rw[<-T];exact t);rw[<-E] at Z;refine⟨c,v,Z,?_,I⟩;have:=r.cell _ c Z;rw[pk _ _ _ i _ v (cL F.nd) (by rw[Qw,D];rfl) J t] at this;exact this
  ·rcases h with h|h
   ·obtain⟨c,o0,Z⟩:=fD d.scope.names (s.heap.objs.size+1) [] _ (Jw<|by rw[<-T];exact h);exact⟨c,by rw[E];exact Z⟩
   ·rw[T] at h;have:=Qy.mp F.free _<|mem_of_lookup h;simp at this
 have j:AOK C n (A.deeper env) (env::l) σ s₁.heap:=by
  refine⟨?_,?_,?_,?_,H.calm,H.hd⟩
  ·have:=H.depth;show A.depth+1+n+2<_;exact zl (Kk (QS<|QP _ _ _) 2) this
  ·have:=H.units;show A.units+3+30*n+300<_;exact zr6 this
  ·show A.frames.map (env:: ·)=_;rw[H.stack];rfl
  ·intro en S
   rcases Qx.mp S with rfl|S
   ·obtain⟨o',es,ep,q1,q2,o0⟩:=r.toInCall.ns;refine⟨by rw[ev.fn];simp,en.locals,o',es,ep,by rw[<-O];rfl,by rw[Y];exact m.freshB<|QA _,by rw[Y];exact m.fresh<|QA _,q1,q2⟩
   ·exact(H.step P).frs en S
 have sr:ScR d.scope env:=by
  have:d.scope=env.scope:=by rw[<-O];rfl
  rw[this];exact .self env
 have back:∀ {σ':PH} {s':Je},Step (ownE env) σ s₁.heap σ' s'.heap->Step none1 σ s.heap σ' s'.heap:=λ{σ' s'} st=>(P.own.trans st).mono λb hb q=>by
  have N:b<s.heap.objs.size:=by
   induction e:s.heap.get? b with
   |none=>rw[e] at hb;exact ft hb
   |some o=>exact QH e
  rcases q with q|⟨x,q⟩
  ·rw[q,Y] at N;exact(KG _ N).elim
  ·exact(KG _<|QX N (z x b q)).elim
 exact k env s₁ sr ev m1 P r1 j (by rw[<-O];rfl) Y z back
theorem AH(T:Todo C G n)(T2:Todo2 C G n)(Tu:Todo C.un G.un n)(T2u:Todo2 C.un G.un n)(g:GOK C G mg mb){ps:List String}(F:FnAt C f ps sts a o fd body)
  {args:List PV}(ls:List String)(hlen:args.length=ps.length)
  (w:wss G (aO C n) (aO C.un n) sts (rho0 ps ls args) σ (λfl o0 σ'=>match fl with
   | .next=>Q .none σ'
   | .ret v=>Q v σ') λx o0 σ'=>X x σ'):aO C (n+1) f args σ Q X:=by
 refine⟨.ref a,F.fv,F.kp,λA l s vs ak m hv=>YM<|oy g F.toFnIn ls hlen ak m hv λenv s₁ sr ev m1 st1 r1 ak1 hfr hloc habove back=> ?_⟩;refine YC (ia sts C G T T2 Tu T2u g fd.scope body F.mat ⟨⟨sr,ev,m1,ak1⟩,l,rfl,hfr⟩ w) (λfl s' h=> ?_) λx s' h=> ?_
 ·obtain⟨f',ρ',σ',h1,o0,m',st',r',o0,w⟩:=h
  induction f' with
  |next=>
   simp only[FR] at h1;subst h1;exact⟨.none,σ',mW,m',back st',r1.trans r',w⟩
  |ret p=>
   obtain⟨v,rfl,hv'⟩:=h1;exact⟨p,σ',hv',m',back st',r1.trans r',w⟩
 ·obtain⟨x,ρ',σ',fl,o0,m',st',r',ak',w⟩:=h;have fl0:Fly C env.frame x _ σ' s.heap s'.heap:=fl.from st1;exact us ak'.stack ak'.frs hfr m' fl0 (λL' q=>by obtain rfl:=sj<|hfr.symm.trans q;rfl) (back st') λh' m2 fl2 st2=>⟨x,σ',fl2,m2,st2,r1.trans r',w⟩
end
end
section
open PySem.W PyProof.Rows
theorem r7{K:Frag}{D:Jg}{od:Option Jp}{name:Jq}{a g:Jf}(h:(clsIn K D).isSome=Jc)(T:findIn K (.ref D) name=Ja (Ja a))(S:specialIn K a "__get__"=Ja (Ja g))(t:takesIn K a=Ja Jc):
  findObj K D od name=Ja (.bind g a):=by
 obtain⟨c,h⟩:=WX.mp h;unfold findObj;rw[h,Kw,T,Kw];show(specialIn K a "__get__").bind _=_;rw[S];show(takesIn K a).bind _=_;rw[t];rfl
theorem lC{K:Frag}{D:Jg}(f:dh K D=Jc):A9 (findIn K (.ref D) "__getattribute__"=Ja (Ja (.builtin "BaseException.__getattribute__"))) (findIn K (.ref D) "__getattr__"=Ja Jb) (subIn K (.ref D) (.type "BaseException")=Ja Jc) (hasDictIn K D=Jc)
  (findIn K (.ref D) "__class__"=Ja (Ja<|.builtin "object.__class__")) (specialIn K (.builtin "object.__class__") "__get__"=Ja (Ja<|.builtin "getset_descriptor.__get__")) (takesIn K (.builtin "object.__class__")=Ja Jc) (mroIn K D (.type "object")=Ja Jc) (mroIn K D (.ref D)=Ja Jc):=by
 simp only[dh,QL,beq_iff_eq] at f;obtain⟨⟨⟨⟨⟨⟨⟨⟨a,b⟩,c⟩,d⟩,e⟩,f⟩,g⟩,h⟩,i⟩:=f;exact⟨a,b,c,d,e,f,g,h,i⟩
theorem ui{prog:Jn}{w:Jm}{A:Jj}{E:Jf->Je->Prop}{Q:Jf->Je->Prop}{s:Je}{K:Frag}{x D:Jg}{ox:Jp}{o:Option Jp}{u:Jf}{l ex:Bool}(f:dh K D=Jc)(X:K.In s.heap)(I:InstAt s.heap x ox D o)
  (h:Jh (Jt prog w) A.in1 (Builtin.«object.__getattribute__» ⟨[.ref x,u],[]⟩) (λi s'=>∃v,i= .done (.ret v)/\Jh (Jt prog w) A (Uc v) Q E s') (λo0 o0=>False) s):Jh (Jt prog w) A (getAttrBy (.ref x) u l ex) Q E s:=by
 obtain⟨a,S,b,o0,o0,o0,o0,o0,o0⟩:=lC f;obtain⟨U,g,d,t,m⟩:=s;have L:=I.type (M:=Jt prog w);have Z:¬ (onTheHeap (Value.ref D)&&(Value.builtin "BaseException.__getattribute__"==Value.builtin "object.__getattribute__"))=Jc:=by rw[show(Value.builtin "BaseException.__getattribute__"==Value.builtin "object.__getattribute__")=Jd by decide+kernel,Bool.and_false];exact QC
 unfold getAttrBy;refine YE<|YA (L.at<|YA ((looks_findIn (M:=Jt prog w) X a).at (wn Z ?_)));unfold getAttrByItsOwn;refine YA<|wy (c:=onTheHeap (Value.ref D)=Jc) rfl ((looks_findIn (M:=Jt prog w) X S).at (YA<|wpAny_attempt (YE ?_)));unfold callGetattribute;refine wn (c:=(ex&&onTheHeap (Value.builtin "BaseException.__getattribute__"))=Jc) (by rw[show onTheHeap (Value.builtin "BaseException.__getattribute__")=Jd from rfl,Bool.and_false];exact QC) ?_;unfold boundAndCalled;refine YA ?_;rw[PySem.F.attr_ValueError.ga.bind];have k:builtinKind "BaseException.__getattribute__"=Ja .slot:=by decide+kernel
 have p:splitId "BaseException.__getattribute__"=Ja ("BaseException","__getattribute__"):=by decide+kernel
 have T:=PySem.F.args_bexc_ga (.ref x) u;refine YB<|wpAny_call (codeAny_call_builtin PySem.F.attr_ValueError.ga.plain PySem.F.entry_bexc_ga ?_);refine oZ (id:="BaseException.__getattribute__") (self:= .ref x) (rest:=[u]) k p T ?_;refine(L.andThen (looks_subIn (M:=Jt prog w) X b):Looks (Jt prog w) U (isInstance (.ref x)<|.type "BaseException") Jc).at ⟨rfl,YC h (λi s' q=> ?_) λo0 o0 q=>q.elim⟩;obtain⟨v,rfl,q⟩:=q;exact q
theorem sJ{E:Jf->Je->Prop}{Q:Option Jf->Je->Prop}{s:Je}{K:Frag}{x D:Jg}
  (f:dh K D=Jc)(j:findObj K D o "__class__"=Ja (.bind (.builtin "getset_descriptor.__get__")<|.builtin "object.__class__"))(L:mroIn K D (.type "object")=Ja Jc)
  (X:K.In s.heap)(I:InstAt s.heap x ox D o)(h:Q (Ja<|.ref D) {s with toks:=s.toks+1}):Jh (Jt prog w) A (getAttr? (.ref x) "__class__") Q E s:=by
 obtain⟨U,g,d,t,m⟩:=s;unfold getAttr? getAttrBy?;refine YA<|wpAny_mkText (YA<|wpAny_attempt (ui (s:=⟨U,g,d,t+1,m⟩) f X I ?_));unfold Builtin.«object.__getattribute__»;refine YA<|YB (YA<|YB (YA<|(I.type (M:=Jt prog w)).at (YA<|(looks_find (M:=Jt prog w) X I j).at ?_)));refine YA<|YE (YM<|class_get (ox:=ox) (od:=o) X I L ?_);exact YB ⟨_,rfl,handed_on rfl<|YB h⟩
theorem l9{K:Frag}{D:Jg}(h:clsIn K D=Ja I):X3 λc d l=>K.lookup D=Ja ⟨c,d,.cls I,l⟩:=by
 unfold clsIn at h
 induction q:K.lookup D with
 |none=>rw[q] at h;exact ns h
 |some o=>
  obtain⟨c,d,t,l⟩:=o;rw[q] at h
  induction t with
  |cls p=>obtain rfl:=sj h;exact⟨c,d,l,rfl⟩
  |_=>exact ns h
theorem s9{K:Frag}{x D:Jg}{ox:Jp}{o:Option Jp}(f:dh K D=Jc):KitX K (.ref x) (.ref D) (λh=>InstAt h x ox D o):=by
 obtain⟨o0,o0,o0,t,a,g,M,m,o0⟩:=lC f;have d:=t;obtain⟨v,c,o0⟩:=any_some d;have S:=c;refine⟨λo0 o0 o0 I=>I.type,λo0 o0 X o0=> ?_,λh W U i n b X p=> ?_,λ{r w A E Q s} X I k=> ?_⟩
 ·obtain⟨F,L,l,T⟩:=l9 c;intro y O P H k q;unfold isType loadHead;exact YA<|wpAny_loadPart (k _ _<|X _ _ T) (YB q)
 ·refine Bool.eq_false_iff.mpr λq=> ?_;have e:D=W:=Value.ref.inj<|beq_iff_eq.mp q;subst e;obtain⟨F,L,l,T⟩:=l9 c;have z:=(X _ _ T).symm.trans p;cases z
 ·have j:findObj K D o "__class__"=Ja (.bind (.builtin "getset_descriptor.__get__")<|.builtin "object.__class__"):=r7 (by rw[S];rfl) a g M;exact sJ f j m X I k
noncomputable abbrev bmV:List Jf:=[.type "ValueError",.type "Exception",.type "BaseException",.type "object"]
inductive IniAt(B:Ji)(K:Frag)(k:Jg)(names:List String):Prop
 |mk (bm:List Jf) (N:Jg) (nm q:Jq) (bs:List Jf) (sn:List Jq) (sub:List Jf) (ab:Bool) (col:Option Bool) (dd:Option Jg) (k0 k1 k2 k3 k5:Option Jf) (mN:Jq->Option Jf) (fI:Jg) (oI:Jp) (fd:Jr) (body:List Jo)
  (hC:B.get? k=Ja (JG nm q k N bs bm Jc sn sub ab col dd k0 k1 k2 k3 k5 "ValueError.__new__")) (hN:B.Ns N mN) (hi:mN "__init__"=Ja (.ref fI)) (T:J8 B bmE bm) (ho:B.get? fI=Ja oI) (hfc:oI.cls= .type "function") (hd:oI.data= .func fd)
  (cd:B.CodeRec fd.code fd.qualname) (hb:fd.body= .stmts body) (clo:fd.closure=[]) (bind:∀vals:List Jf,vals.length=names.length+1->Y5 fd ⟨vals,[]⟩=pure ((("self"::names).map Qb).zip vals))
  (par:∀x∈"self"::names,fd.scope.names.lookup (Qb x)=Ja .local/\(Qb x==("__debug__":Jq))=Jd) (nd:("self"::names).Nodup) (co:fd.scope.isCoroutine=Jd) (gen:fd.scope.isGenerator=Jd) (kind:fd.scope.kind= .function)
  (mat:mIni fd.scope names body=Jc) (sa:findIn K (.ref k) "__setattr__"=Ja (Ja<|.builtin "object.__setattr__")) (len:names≠ []/\names.length<=50):IniAt B K k names
structure InstK(C:Cx)(G:Gx)(k:Jg):Prop where
 ga:findIn C.K (.ref k) "__getattribute__"=Ja (Ja<|.builtin "object.__getattribute__")
 gh:findIn C.K (.ref k) "__getattr__"=Ja Jb
 dct:hasDictIn C.K k=Jc
 fl:∀f∈G.flds "Bounds",findIn C.K (.ref k) (Qb f)=Ja Jb
 me:∀f v,bZ f=Jd->C.fv f=Ja v->∃a,A4 (v= .ref a) (findIn C.K (.ref k) (Qb<|mOf f)=Ja (Ja<|.ref a)) (typeIn C.K (.ref a)=Ja (.type "function")) (∀x∈C.flds "Bounds",Qb (mOf f)≠Qb x)
structure ExcOK(C:Cx)(G:Gx)(mg mb:Jq->Option Jf):Prop where
 kin:Frag.In C.K C.B
 cls:∀c k,C.cls c=Ja k->mg (Qb c)=Ja (.ref k)/\dh C.K k=Jc
 has:∀c,G.cs.contains c=Jc->∃k,C.cls c=Ja k
 hasM:∀c,G.mks.contains c=Jc->∃k,C.cls c=Ja k
 sub:∀c k d kd,C.cls c=Ja k->C.cls d=Ja kd->exmOne C.K (.ref k) (.ref kd)=Ja (G.sub c d)
 fl:∀c,G.flds c=C.flds c
 flm:∀c,G.mks.contains c=Jc->G.flds c=[]
 fld:∀c k f,C.cls c=Ja k->f∈G.flds c->findIn C.K (.ref k) (Qb f)=Ja Jb
 ini:∀c,G.inis.contains c=Jc->∃k,C.cls c=Ja k/\IniAt C.B C.K k (G.flds c)
 subV:∀c k,C.cls c=Ja k->exmOne C.K (.ref k) (.type "ValueError")=Ja (G.sub c "ValueError")
 valV:C.cls "ValueError"=Jb/\mg (Qb "ValueError")=Jb/\mb (Qb "ValueError")=Ja (.type "ValueError")
 make:∀c k,C.cls c=Ja k->G.mks.contains c=Jc->OwnCls (Qb c) k bmV "ValueError.__new__" mg C.B
 ins:∀k,C.icl=Ja k->InstK C G k
theorem ExcOK.un{C:Cx}{G:Gx}{mg mb:Jq->Option Jf}(X:ExcOK C G mg mb):ExcOK C.un G.un mg mb:=⟨X.kin,X.cls,X.has,X.hasM,X.sub,X.fl,X.flm,X.fld,X.ini,X.subV,X.valV,X.make,λk h=>⟨(X.ins k h).ga,(X.ins k h).gh,(X.ins k h).dct,(X.ins k h).fl,(X.ins k h).me⟩⟩
noncomputable def ij(C:Cx)(d:String):Jf:=match C.cls d with
 |some k=> .ref k
 |none=> .type "ValueError"
section
variable{C:Cx}{G:Gx}{mg mb:Jq->Option Jf}{n:Nat}{A:Jj}{Er:Jf->Je->Prop}{env:Js}{ρ:Rho}{σ:PH}{s:Je}
theorem iQ{d:String}(h:G.isCls d=Jc):G.cs.contains d=Jc\/d="ValueError":=by
 simp only[Gx.isCls,WW,QL,beq_iff_eq] at h;exact h.imp (·.1) id
theorem ExcOK.exm(X:ExcOK C G mg mb){c d:String}(Z:C.cls c=Ja k)(v:G.cs.contains d=Jc\/d="ValueError"):exmOne C.K (.ref k) (ij C d)=Ja (G.sub c d):=by
 rcases v with h|rfl
 ·obtain⟨z,p⟩:=X.has d h;simp only[ij,p];exact X.sub c k d z Z p
 ·simp only[ij,X.valV.1];exact X.subV c k Z
theorem kX(g:GOK C G mg mb)(X:ExcOK C G mg mb)(e:EnvR C env ρ σ s.heap)(m:Sim C σ s.heap){d:String}{Q:Jf->Je->Prop}(c:G.cs.contains d=Jc\/d="ValueError")
  (l:env.scope.names.lookup (Qb d)=Ja .globalImplicit)(q:bB (Qb d)=Jc)(h:Q (ij C d) s):Jh (Mo C) A (Jx (.Name (Qb d) pos) env) Q Er s:=by
 rcases c with N|rfl
 ·obtain⟨k,p⟩:=X.has d N;simp only[ij,p] at h;exact iO g e m l q (X.cls d k p).1 h
 ·simp only[bB,QL,QQ] at q;simp only[ij,X.valV.1] at h;refine YK ?_ q.1;rw[gr e.fn l];refine Calls.loadGlobal_builtin (v:= .type "ValueError") ?_ X.valV.2.1 ?_ X.valV.2.2 h
  ·rw[e.glob];exact g.g.keeps m.base
  ·rw[e.blt];exact g.b.keeps m.base
theorem ly{K:Frag}{k:Jg}{v:Jf}{b:Bool}(M:dh K k=Jc)(h:exmOne K (.ref k) v=Ja b):kitOne K (.ref k) v=Ja b:=by
 unfold exmOne at h
 split at h
 ·unfold kitOne
  split
  ·rename_i q
   have e:Value.ref k=v:=beq_iff_eq.mp q;subst e;simp only[dh,QL,beq_iff_eq] at M;have p:=kitCls_self h;rw[M.2] at p;exact p
  ·exact h
 ·exact ns h
where
 kitCls_self {K:Frag} {k:Jg} {b:Bool} (h:kitCls K (.ref k) (.ref k)=Ja b):mroIn K k (.ref k)=Ja b:=by
  unfold kitCls at h;simp only at h
  split at h
  ·exact h
  ·exact ns h
theorem qQ(X:ExcOK C G mg mb){c:String}{k:Jg}(Z:C.cls c=Ja k):∀ {ts:List String},(∀d∈ts,G.isCls d=Jc)->kitAny C.K (.ref k) (ts.map (ij C))=Ja (ts.any (G.sub c))
 |[]=>λo0=>rfl
 |d::r=>λh=>by
  have N:=ly (X.cls c k Z).2 (X.exm Z<|iQ (h d Kq));have p:=qQ X Z (ts:=r) λd v=>h d<|Kl _ v;simp only[Qo,kitAny,N,Yn];cases G.sub c d with
  |true=>rfl
  |false=>exact p
theorem oM(g:GOK C G mg mb)(X:ExcOK C G mg mb)(v:EnvR C env ρ σ s.heap)(m:Sim C σ s.heap)(r:ScR sc env):∀ {ts:List String} {es:List Jl} {R:List Jf->Je->Prop},jH sc ts es=Jc->(∀d∈ts,G.isCls d=Jc)->
  R (ts.map<|ij C) s->Jh (Mo C) A (J9<|backTo pos (JF es env)) R Er s
 |[],[]=>λo0 o0 h=>Calls.spliced_nil h
 |[],_::_=>λL o0 o0=>by exact ft L
 |_::_,[]=>λL o0 o0=>by exact ft L
 |d::ts,e::es=>λL c h=>by
  replace L:=and2 L;obtain⟨py,rfl,B,K⟩:=iG L.1;rw[cq (λx p q=>by cases q)];show Jh _ _ (J9 ((Jd,Jx (.Name (Qb d) py) env)::J1 pos (JF es env))) _ _ s;refine Calls.spliced_cons<|kX g X v m (iQ<|c d Kq) (r.glob _ B) K ?_;exact oM g X v m r L.2 (λd W=>c d<|Kl _ W) h
theorem _root_.PySem.W.InstAt.keeps{h S:Ji}{x D:Jg}(I:InstAt h x ox D od)(k:∀b o,h.get? b=Ja o->S.get? b=Ja o):InstAt S x ox D od:=by
 refine⟨k _ _ I.at_,I.cls,I.no,?_⟩;have:=I.dict;cases N:ox.dict<;>rcases od with⟨⟩<;>rw[N] at this<;>first|exact this|exact k _ _ this
theorem Sim.inst{h:Ji}(m:Sim C σ h)(e:σ b=Ja (.exc c od)):X3 λW k D=>A3 (h.get? b=Ja W) (C.cls c=Ja k) (InstAt h b W k D):=by
 obtain⟨W,F,k,v,X,u,V,q,N,U⟩:=m.objs _ _ e
 induction od with
 |none=>exact⟨W,k,Jb,F,X,F,u,by simp[notCls,V],by rw[N];trivial⟩
 |some d=>
  obtain⟨f,w⟩:=U d rfl;obtain⟨o,g,o0⟩:=m.objs _ _ w;exact⟨W,k,Ja o,F,X,F,u,by simp[notCls,V],by rw[N];exact g⟩
theorem mw(r:VR C σ h p v):Uc v=pure v:=by
 induction p using PV.casesOn with
 |none=>cases (show v= .none from r);rfl
 |bool b=>cases (show v= .bool b from r);rfl
 |int i=>obtain⟨t,rfl⟩:=r;rfl
 |str i=>obtain⟨t,rfl⟩:=r;rfl
 |tup l=>obtain⟨a,n,w,rfl,o0⟩:=r;rfl
 |ref a=>cases (show v= .ref a from r);rfl
 |scr l=>obtain⟨a,o,n,w,rfl,o0⟩:=r;rfl
theorem tP{E:Jf->Je->Prop}{Q:Jf->Je->Prop}{s:Je}{K:Frag}{x D:Jg}(c:dh K D=Jc)
  (j:findObj K D o f=Ja (.value v))(hv:Uc v=pure v)(X:K.In s.heap)(I:InstAt s.heap x ox D o)(h:Q v {s with toks:=s.toks+1}):Jh (Jt prog w) A (getAttr (.ref x) f Jc) Q E s:=by
 obtain⟨U,g,d,t,m⟩:=s;unfold getAttr;refine YA<|wpAny_mkText (ui (s:=⟨U,g,d,t+1,m⟩) c X I ?_);unfold Builtin.«object.__getattribute__»;refine YA<|YB (YA<|YB (YA<|(I.type (M:=Jt prog w)).at (YA<|(looks_find (M:=Jt prog w) X I j).at ?_)));refine YB ⟨v,rfl,?_⟩;rw[hv];exact YB h
theorem wc{c:String}{l:List PV}{o:Jp}{h:Ji}{j:Nat}{f:String}{p:PV}(r:FD C σ h c l o)(N:(C.flds c)[j]? =Ja f)(Y:l[j]? =Ja p):∃v,lookIn (Qb f) o=Ja (Ja v)/\VR C σ h p v:=by
 obtain⟨U,H,e,k,v,o0⟩:=r;obtain⟨u,a,b⟩:=v j f p N Y;refine⟨u,?_,b⟩;unfold nsFind findBy at a;rw[<-Array.find?_toList] at a;obtain⟨d,F,q⟩:=Qu.mp a;unfold lookIn;rw[e];show(match U.toList.find? (·.key.isStr (Qb f)) with
   |some e=>Ja<|Ja e.val
   |none=>if U.toList.any (·.refKey) then Jb else Ja Jb)=_
 rw[F,<-q]
theorem wr(h:pfd G f o=Ja u):X3 λc l j=>A3 (o=Ja (.fd c l)) ((G.flds c).idxOf? f=Ja j) (l[j]? =Ja u):=by
 induction o with
 |none=>exact onx h
 |some P=>
  induction P with
  |fd c l=>
   obtain⟨j,J,w⟩:=Qn.mp (show((G.flds c).idxOf? f).bind (λj=>l[j]?)=Ja u from h);exact⟨c,l,j,rfl,J,w⟩
  |_=>exact onx h
theorem up(h:pattr G σ f v=Ja u):X3 λb d o=>A4 (v= .ref b) (σ b=Ja o) ((∃c,o= .exc c (Ja d))\/o= .inst d) (pfd G f (σ d)=Ja u):=by
 induction v using PV.casesOn with
 |ref b=>
  replace h:pfld G σ f (σ b)=Ja u:=h
  induction e:σ b with
  |none=>rw[e] at h;exact onx h
  |some o=>
   rw[e] at h
   induction o with
   |exc c d=>
    induction d with
    |none=>exact onx h
    |some d=>exact⟨b,d,_,rfl,e,.inl ⟨c,rfl⟩,h⟩
   |inst d=>exact⟨b,d,_,rfl,e,.inr rfl,h⟩
   |_=>exact onx h
 |_=>exact onx h
theorem oG{K:Frag}{D:Jg}{o:Jp}{f:Jq}{v:Jf}(h:hasDictIn K D=Jc)(i:findIn K (.ref D) f=Ja Jb)(l:lookIn f o=Ja (Ja v)):findObj K D (Ja o) f=Ja (.value v):=by
 obtain⟨I,c,d⟩:=any_some h;unfold findObj;rw[c,Kw,i,Kw,Kw,Kw];show(W.ownOf I (Ja o) f).bind _=_;unfold W.ownOf;rw[Uh d];show(lookIn f o).bind _=_;rw[l];rfl
theorem vU{l:List String}(h:l.idxOf? f=Ja j):l[j]? =Ja f:=by
 obtain⟨T,e⟩:=List.idxOf?_eq_some_iff.mp h;rw[Qf T];exact Uk Ja e.1
theorem sw{E:Jf->Je->Prop}{Q:Jf->Je->Prop}{s:Je}{K:Frag}{x D:Jg}(a:findIn K (.ref D) "__getattribute__"=Ja (Ja (.builtin "object.__getattribute__")))
  (j:findObj K D o f=Ja (.value v))(hv:Uc v=pure v)(X:K.In s.heap)(I:InstAt s.heap x ox D o)(h:Q v {s with toks:=s.toks+1}):Jh (Jt prog w) A (getAttr (.ref x) f Jc) Q E s:=by
 refine get_open X I a ?_;obtain⟨H,g,d,t,m⟩:=s;refine YA<|YB (YA<|(I.type (M:=Jt prog w)).at (YA<|(looks_find (M:=Jt prog w) X I j).at ?_));refine YB ?_;show Jh _ _ (Uc v) _ _ _;rw[hv];exact YB h
theorem sm{o:Jp}(h:∀c,o.data≠ .cls c):notCls o=Jc:=by
 obtain⟨a,b,d,e⟩:=o
 rcases d with⟨⟩<;>first|rfl|exact absurd rfl<|h _
theorem r8(X:ExcOK C G mg mb){sc:Jk}{x f:String}{q p:Y8}(h1:isLoc sc (Qb x)=Jc)(h2:bB (Qb x)=Jc):EvOK C G n sc (.attr x f) (.Attribute (.Name (Qb x) q) (Qb f) p):=λ{env ρ A l σ s Q X'} Y w=>by
 have m:=Y.m;obtain⟨v,hx,w⟩:=jP (show oV (λv=>oV (λu=>Q u σ)<|pattr G σ f v) (ρ.get x) from w);obtain⟨u,M,e⟩:=jP w;obtain⟨b,d,po,rfl,L,R,z⟩:=up M;obtain⟨N,fs,j,Z,h3,S⟩:=wr z;obtain⟨o,J,r⟩:=m.objs _ _ Z;have H:(G.flds N)[j]? =Ja f:=vU h3;obtain⟨v,h,hv⟩:=wc r ((X.fl N)▸H) S;rw[arm_eval_Attribute];show Jh (Mo C) A (Jx (.Name (Qb x) q) env>>=_) _ _ s;refine YA (k7 Y.ev (j4 Y.sr h1) h2 hx λB W=> ?_);rw[show B= .ref b from W];refine YA<|YF (YA<|YE ?_);have i:Jh (Mo C) A (pure v>>=λv=>pure v) (VP C none1 σ s Q) (XP C none1 σ s X') {s with toks:=s.toks+1}:=YA<|wpAny_of_eq (a:=v) rfl (YB<|VP.here m rfl ⟨rfl,rfl⟩ hv e)
 rcases R with⟨c,rfl⟩|rfl
 ·obtain⟨O,g,k,vs,P,U,V,k4,T,y⟩:=m.objs _ _ L;obtain⟨E,F⟩:=y d rfl;rw[Z] at F;cases F;have I:InstAt s.heap b O k (Ja o):=⟨g,U,by simp[notCls,V],by rw[T];exact J⟩
  have D:=(X.cls _ k P).2;obtain⟨o0,o0,o0,t,o0⟩:=lC D;exact tP D (oG t (X.fld _ k f P<|QE H) h) (mw hv) (X.kin.keeps m.base) I<|YA (JY (a:=()) rfl<|YB (VP.here m rfl ⟨rfl,rfl⟩ hv e))
 ·obtain⟨O,g,k,P,U,V,T,E,F⟩:=m.objs _ _ L;rw[Z] at F;cases F;have I:InstAt s.heap b O k (Ja o):=⟨g,U,sm V,by rw[T];exact J⟩
  have K:=X.ins k P;exact sw K.ga (oG K.dct (K.fl f<|QE H) h) (mw hv) (X.kin.keeps m.base) I<|YA (JY (a:=()) rfl<|YB (VP.here m rfl ⟨rfl,rfl⟩ hv e))
theorem getM{E:Jf->Je->Prop}{h:Ji}{K:Frag}{x k d a:Jg}{ox:Jp}{pl:Sem Bool}{mm:Jq->Option Jf}{Q:Jf×List Jf->Je->Prop}(X:K.In h)(hx:h.get? x=Ja ox)(Z:ox.cls= .ref k)(O:ox.dict=Ja d)(L:h.Ns d mm)(hsh:mm name=Jb)
  (V:findIn K (.ref k) "__getattribute__"=Ja (Ja<|.builtin "object.__getattribute__"))(T:findIn K (.ref k) "__getattr__"=Ja Jb)(f:findIn K (.ref k) name=Ja (Ja<|.ref a))(W:typeIn K (.ref a)=Ja (.type "function"))(m:Q (.ref a,[.ref x]) ⟨h,g,r,t,o⟩):
  Jh (Jt prog w) A (getMethod (.ref x) name pl) Q E ⟨h,g,r,t,o⟩:=by
 have c:=F.canon_object_ga;have U:=looks_findIn (M:=Jt prog w) X V;have q:=looks_findIn (M:=Jt prog w) X T;have R:=looks_findIn (M:=Jt prog w) X f;have z:=looks_typeIn (M:=Jt prog w) X W;unfold getMethod specialOf;have J:Looks (Jt prog w) h (typeOf<|.ref x) (.ref k):=Z▸(Looks.ld hx).andThen .now;refine YA<|YA (J.at<|U.at ?_);simp only[c,Wy,if_false];refine YA<|YA (J.at<|q.at ?_);refine wn QC ?_;refine YA<|YA (J.at<|R.at ?_);dsimp only;refine YA<|z.at ?_;refine wn (by decide) ?_;refine YA<|wpAny_loadPart_at hx ?_;rw[O];refine YA<|wpAny_nsGet L ?_;rw[hsh];refine wn QC ?_;exact YA<|wpAny_rule (YB m)
theorem tR(g:GOK C G mg mb)(X:ExcOK C G mg mb){sc:Jk}{a:E}{y t:Jl}{ts:List String}{py p:Y8}(hs:stat ts=Jd)(h5:sc.names.lookup (Qb "isinstance")=Ja .globalImplicit)(h6:bB (Qb "isinstance")=Jc)(hz:kz y=Jc)(J:mType sc ts t=Jc)(ha:EvOK C G n sc a y):
  EvOK C G n sc (.isi a ts) (.Call (.Name (Qb "isinstance") py) [y,t] [] p):=λ{env ρ A l σ s Q X'} R w=>by
 obtain⟨o0,w⟩:=w;rw[eQ];have K:=f8 hz;have tn:(∀z q,t≠ .Starred z q):=by
  rintro z q rfl;cases jZ J with
  |tup es k p e=>cases e
  |one d e h=>exact bnx h
 have V:=tn;have pa:dm [y,t]=Jc:=fJ K<|fJ V rfl;refine YA<|gI g R.ev R.m (R.sr.glob _ h5) h6 (by decide) (v:= .builtin "isinstance") (by decide+kernel) (de (first:=[]) ⟨.machine,.inr<|.inl rfl,W.Looks.of_pure rfl⟩ pa ?_);rw[cq K,cq V];show Jh _ _ (J9 [(Jd,Jx y env),(Jd,Jx t env)]) _ _ s;refine Calls.spliced_cons (EOK.then (ha R w) λv1 H r m u B P U w=> ?_);simp only[isiG,hs,Bool.false_or] at w;have x:X3 λb c S=>A4 (r= .ref b) (m b=Ja (.exc c S)) ((∀d∈ts,G.isCls d=Jc)) (Q (.bool<|ts.any (G.sub c)) m):=by
  by_cases hx:excV m r=Jc
  ·rw[Uh hx] at w
   induction r using PV.casesOn with
   |ref b=>
    induction e:m b with
    |none=>simp[excV,e] at hx
    |some o=>
     induction o with
     |exc c S=>
      replace w:oB (λb=>Q (.bool b) m) (isiO G ts<|m b):=w;rw[e] at w;replace w:oB (λb=>Q (.bool b) m) (if ts.all G.isCls=Jc then Ja (ts.any<|G.sub c) else Jb):=w;by_cases q:ts.all G.isCls=Jc
      ·rw[Uh q] at w;exact⟨b,c,S,rfl,e,λd hd=>Qy.mp q d hd,w⟩
      ·rw[Ug q] at w;exact w.elim
     |_=>simp[excV,e] at hx
   |_=>simp[excV] at hx
  ·rw[Ug hx] at w;exact w.elim
 obtain⟨b,c,S,rfl,e1,f,j⟩:=x;change _=_ at u;subst u;obtain⟨ob,k,D,e2,T,I⟩:=B.inst e1;have Z:KitX C.K (.ref b) (.ref k) (λh=>InstAt h b ob k D):=s9 (X.cls c k T).2;have i:Frag.In C.K H.heap:=X.kin.keeps B.base;cases jZ J with
 |tup es Y pp N O aa L=>
  subst N;refine Calls.spliced_cons<|wpAny_Tuple_spliced (oM g X (R.ev.step P) B R.sr O f ⟨?_,Calls.spliced_nil ⟨λM F q=>Qm _<|B.base M F q,?_⟩⟩)
  ·rw[Qd,<-i6 O];exact QD L<|by decide
  ·refine kia_tup (s:={H with heap:=H.heap.push _}) Z (i.keeps λM F q=>Qm _ q) (I.keeps λM F q=>Qm _ q) (QG _ rfl) (qQ X T f) (by simp) λtk=> ?_;exact⟨.bool _,m,rfl,B.push _,P.trans<|.push _ _ _ _,U.trans ⟨rfl,rfl⟩,j⟩
 |one d ed O=>
  subst ed;obtain⟨pd,rfl,h7,h8⟩:=iG O;refine Calls.spliced_cons<|kX g X (R.ev.step P) B (iQ<|f d Kq) (R.sr.glob _ h7) h8 (Calls.spliced_nil ⟨B.base,?_⟩);have Y:=ly (X.cls c k T).2 (X.exm T<|iQ (f d Kq));refine kia_one Z i I Y (by simp) λtk=> ?_;have w':Q (.bool<|G.sub c d) m:=by simpa using j
  exact⟨.bool _,m,rfl,B,P,U.trans ⟨rfl,rfl⟩,w'⟩
end
end
section
open PySem.W PyProof.Rows
section
variable{C:Cx}{G:Gx}{mg mb:Jq->Option Jf}{n:Nat}
theorem rZ{E:Jf->Je->Prop}{a pos:Y8}{args:List Jl}{Q:Jf->Je->Prop}(O:attributeBase o name env (Jx o env)=Jx o env)
  (f:methodCallForm (args.length+([]:List Keyword).length) (J1 pos<|starEach args env) (Y4 pos<|keywordEach [] env)=Jc)(l:(a.endLine==pos.line)=Jc)
  (h:Jh (Jt prog w) A (Jx o env) (λv s₁=>∀pl:Sem Bool,Jh (Jt prog w) A (getMethod v name pl) (λr b=>Jh (Jt prog w) A (callWith pos r.1 r.2 (J1 pos<|starEach args env)<|backToKw pos (YH [] env)) Q E b) E s₁) E s):
  Jh (Jt prog w) A (Jx (.Call (.Attribute o name a) args [] pos) env) Q E s:=by
 rw[arm_eval_Call,O];refine YA (YC h (λv s₁ V=> ?_) λo0 o0 e=>e);refine YA<|YF ?_;have p:methodCallPos Jc o env a pos=pure pos:=by unfold methodCallPos;simp[l]
 unfold methodCall;rw[f];refine YA<|YE (YC (V _) (λr b q=> ?_) λo0 o0 e=>e);exact YA<|wpAny_of_eq p q
theorem uY{as:List Jl}(h:dm as=Jc)(l:as.length<=20):methodCallForm (as.length+([]:List Keyword).length) (J1 pos (JF as env)) (Y4 pos (YH [] env))=Jc:=by
 have s:=i0 (pos:=pos) (env:=env) h;show((J1 pos<|starEach as env).all (λx=> !x.1)&&Jc&&decide (as.length+0+0<30))=Jc;rw[<-List.not_any_eq_all_not,s,Ud (show as.length+0+0<30 from zb1 l rfl)];rfl
theorem qy(g:GOK C G mg mb)(X:ExcOK C G mg mb){args:List E}{as:List Jl}{p q:Y8}(ho:EvOK C G n sc o y)(Y:ei y=Jc)(B:(p.endLine==q.line)=Jc)(J:Evs C G n sc args as)(O:as.length<=20)(h6:bZ f=Jd):EvOK C G n sc (.mcall f o args) (.Call (.Attribute y (Qb (mOf f)) p) as [] q):=λ{ab ρ A l σ s Q X'} I w=>by
 obtain⟨v,hv,kp⟩:=g.fn f w.1;refine rZ (kB Y) (uY J.plain O) B ?_;refine EOK.then (ho I w.2) λv1 s1 p1 aa u m t r Z=> ?_;obtain⟨b,d,rfl,e1⟩:=xM Z.1;rw[show v1= .ref b from u];obtain⟨ob,g1,k,P,k2,k3,k5,fs,H⟩:=m.objs _ _ e1;obtain⟨od,N,j,ep,c,K,o0,h⟩:=m.objs _ _ H;obtain⟨a,rfl,f1,f2,L⟩:=(X.ins k P).me f v h6 hv;intro pl;obtain⟨hh,gg,dr,tk,os⟩:=s1;refine getM (X.kin.keeps m.base) g1 k2 k5 (mm:=λz=>nsFind j z) ⟨od,j,ep,N,c,K,λo0=>rfl⟩ (h _ L) (X.ins k P).ga (X.ins k P).gh f1 f2 ?_;refine de (first:=[.ref b]) kp J.plain ?_;refine YC (jS J (I.step t m) Z.2) (λD R T=> ?_) λo0 o0 x=>XP.from t r x;obtain⟨ps,W,U,F,V,M,hn,i⟩:=T;obtain⟨v',e,o0,S⟩:=i;obtain rfl:=sj<|hv.symm.trans e;exact⟨F.base,YC (S A l R (.ref b::D) ((I.ak.step t).step V) F ⟨.ref b,D,rfl,rfl,U⟩) (λo0 o0 x=>VP.from t r<|VP.from V M x) λo0 o0 x=>XP.from t r<|XP.from V M x⟩
end
end
section
open PySem.W PyProof.Rows
section
variable{C:Cx}{G:Gx}{mg mb:Jq->Option Jf}{n:Nat}{A:Jj}{env:Js}{ρ:Rho}{σ:PH}{s:Je}{l:List Js}
theorem dp{h:Ji}(m:Sim C σ h)(n:h.get? e=Jb):C.B.get? e=Jb/\σ e=Jb:=by
 constructor
 ·induction q:C.B.get? e with
  |none=>rfl
  |some o=>exact ns<|n.symm.trans (m.base e o q)
 ·induction q:σ e with
  |none=>rfl
  |some o=>obtain⟨b,z,o0⟩:=m.objs e o q;exact ns<|n.symm.trans z
inductive ExCls(h:Ji)(k:Jg):Prop
 |mk (nm q:Jq) (N:Jg) (bs bm:List Jf) (hdct:Bool) (sn:List Jq) (sub:List Jf) (ab:Bool) (col:Option Bool) (dd:Option Jg) (k0 k1 k2 k3 k5:Option Jf) (newId:String) (hC:h.get? k=Ja (JG nm q k N bs bm hdct sn sub ab col dd k0 k1 k2 k3 k5 newId)) (hb:bm.contains (.type "BaseException")=Jc):ExCls h k
theorem ExCls.keeps{h S:Ji}(x:ExCls h k)(kp:∀b o,h.get? b=Ja o->S.get? b=Ja o):ExCls S k:=by
 obtain⟨nm,q,N,bs,m,d,sn,sub,a,c,f,W,P,U,F,O,e,M,R⟩:=x;exact⟨nm,q,N,bs,m,d,sn,sub,a,c,f,W,P,U,F,O,e,kp _ _ M,R⟩
theorem ExCls.kp(x:ExCls C.B k):Kp C (.ref k):=by
 obtain⟨nm,B,N,bs,m,h,sn,sub,a,c,d,S,P,U,F,O,e,M,b⟩:=x;exact⟨.machine,.inr<|.inl rfl,λA Q E s kp q=>wpAny_keeperOf_exc (kp _ _ M) q⟩
inductive RP(k:Jg)(E:Jf->Je->Prop)(v:Jf)(s:Je):Prop
 |mk (e t:Jg) (dx:Option Jg) (hv:v= .ref e) (x:ExCls s.heap k) (he:s.heap.get? e=Ja {cls:= .ref k,dict:=dx,data:= .fields #[.ref t,.none,.none,.none,.bool Jd,.none]}) (hE:E (.ref e) s):RP k E v s
theorem qm{E:Jf->Je->Prop}{Q:Flow->Je->Prop}(U:A.handled=Jb)(h:Jh M A x (RP k E) E s):
  Jh M A (raiseStmt env (Ja x) Jb) Q E s:=by
 unfold raiseStmt;refine YA (YC h (λv m V=> ?_) λo0 o0 x=>x);obtain⟨e,t,u,rfl,x,O,I⟩:=V;obtain⟨nm,q,N,bs,Z,y,sn,sub,a,o,f,S,P,X,F,T,w,i,b⟩:=x;have c:(Value.ref k::Z).contains (.type "BaseException")=Jc:=by rw[KZ,b,Bool.or_true]
 obtain⟨p,g,d,tk,R⟩:=m
 repeat (first|with_reducible refine Jz O ?_|with_reducible refine Jz i ?_|(with_reducible refine Y0 i ?_;rw[c])|wp_step)
 exact wpAny_raiseNew_none U I
theorem u9{E:Jf->Je->Prop}{Q:Flow->Je->Prop}(U:A.handled=Jb)(h:Jh M A (Jx e env) (RP k E) E s):Jh M A (exec (.Raise (Ja e) Jb pos) env) Q E s:=by
 rw[arm_exec_Raise];exact YA<|YF (qm U<|YA (YC h (λv p B=>YA<|YF (YB B)) λo0 o0 x=>x))
inductive RM(C:Cx)(c:String)(k:Jg)(ps:List PV)(σ:PH)(h₀:Ji)(s:Je)(v:Jf)(s':Je):Prop
 |mk (e t:Jg) (dx:Option Jg) (hv:v= .ref e) (new:s.heap.get? e=Option.none) (go:s'.heap.get? e=Ja {cls:= .ref k,dict:=dx,data:= .fields #[.ref t,.none,.none,.none,.bool Jd,.none]})
  (keep:∀b o,s.heap.get? b=Ja o->s'.heap.get? b=Ja o) (rest:Rest s s') (ff:FF C ⟨c,ps⟩ σ h₀ s'.heap dx):RM C c k ps σ h₀ s v s'
theorem RM.raise{s₁ j:Je}(r:RM C c k ps σ1 s.heap s₁ v j)(x:ExCls C.B k)(h:C.cls c=Ja k)(m:Sim C σ1 s₁.heap)(P:Step none1 σ s.heap σ1 s₁.heap)(B:Rest s s₁)(W:EnvR C env ρ σ s.heap)(a:AOK C n A l σ s.heap)(w:X ⟨c,ps⟩ ρ σ1):RP k (SX C n A l env σ s X) v j:=by
 obtain⟨e,t,d,rfl,new,g,keep,y,f⟩:=r;have V:Step none1 σ s.heap σ1 j.heap:=P.trans<|.more keep;exact⟨e,t,d,rfl,x.keeps λb o q=>keep b o<|m.base b o q,g,⟨c,ps⟩,ρ,σ1,⟨e,_,_,k,rfl,(dp m new).1,(dp m new).2,P.live e new,g,h,rfl,rfl,rfl,.inl rfl,f⟩,W.step V,m.more keep,V.own,B.trans y,a.step V,w⟩
def MkOK(C:Cx)(G:Gx)(n:Nat)(c:String)(k:Jg)(N:Nat):Prop:=∀ (A:Jj) (l:List Js) (σ T:PH) (s m:Je) (p:List PV) (v:List Jf) (E:Jf->Je->Prop),AOK C n A l σ s.heap->VRs C T m.heap p v->Sim C T m.heap->Step none1 σ s.heap T m.heap->p.length=N->v.length<=JM->
 Jh (Mo C) A (call (.ref k) v) (RM C c k (p.take (G.flds c).length) T s.heap m) E m
theorem l6(g:GOK C G mg mb)(X:ExcOK C G mg mb)(h:C.calm){args:List E}(M:C.cls c=Ja k)(x:ExCls C.B k)(mk:MkOK C G n c k args.length){sc:Jk}{as:List Jl}{py p q:Y8}(B:sc.names.lookup (Qb c)=Ja .globalImplicit)(W:bB (Qb c)=Jc)(H:as.length<=20)(a:Evs C G n sc args as):
  StK C G n sc (.raise c args) (.Raise (Ja<|.Call (.Name (Qb c) py) as [] p) Jb q):=λ{env ρ A l σ s Q F} I w=>by
 refine u9 (k:=k) (I.ak.calm h) ?_;rw[eQ];refine YA<|iO g I.ev I.m (I.sr.glob _ B) W (X.cls c k M).1 (de (first:=[]) x.kp a.plain ?_);refine YC (jS a I.toAt w.2) (λJ D T=> ?_) λo0 o0 x=>XP.stmt I.ev I.ak x;obtain⟨i,O,hv,m,t,f,o,w⟩:=T;have V:J.length<=JM:=by rw[hv.length,o,<-a.length];exact QD H<|by decide
 exact⟨m.base,YC (mk _ _ _ _ _ _ _ _ _ I.ak hv m t o V) (λv R r=>r.raise x M m t f I.ev I.ak w) λo0 o0 x=>x⟩
theorem pA(g:GOK C G mg mb)(X:ExcOK C G mg mb)(a:C.calm){args:List E}(w:G.mks.contains c=Jc){sc:Jk}{as:List Jl}{py p q:Y8}(u:sc.names.lookup (Qb c)=Ja .globalImplicit)(W:bB (Qb c)=Jc)(J:as.length<=20)(H:Evs C G n sc args as):StK C G n sc (.raise c args) (.Raise (Ja (.Call (.Name (Qb c) py) as [] p)) Jb q):=by
 obtain⟨k,x⟩:=X.hasM c w;obtain⟨D,N,nm,B,bs,h,sn,sub,b,o,d,S,P,U,F,K,z,M,j,i,T⟩:=(X.make c k x w).obj;refine l6 g X a x ⟨nm,B,N,bs,D,h,sn,sub,b,o,d,S,P,U,F,K,_,M,T.hasType<|by decide+kernel⟩ ?_ u W J H;intro A l σ O s Z I f E R hv m v Y r;refine wpAny_call_exc_subT (hrest:=r) PySem.F.excBase_ValueError (T.keeps m.base) (m.base _ _ M) (j.keeps m.base) i λV e hx=> ?_;obtain⟨t,L,y,Q⟩:=hx.there;exact⟨e,t,_,rfl,hx.new,L,hx.keeps,⟨rfl,rfl⟩,.no (by rw[X.flm c w];rfl) rfl⟩
end
end
section
open PySem.W PyProof.Rows
theorem tO(h:mIni sc [] b=Jc):b=[]:=by
 induction b using List.casesOn with
 |nil=>rfl
 |cons=>exact ft h
theorem sM(h:mIni sc (x::xs) b=Jc):
  X5 λo U J B r=>b= .Assign [.Attribute (.Name (Qb "self") o) (Qb x) U] (.Name (Qb x) J) B::r/\mIni sc xs r=Jc:=by
 induction b using List.casesOn with
 |nil=>exact ft h
 |cons y T=>
  obtain⟨Y,Q⟩:=and2 (show(kAsg (hAttr x<|hName (isLoc sc) "self") (hName (isLoc sc) x) y&&mIni sc xs T)=Jc from h);refine pJ (P:=λy=>X5 λo U J B r=>y::T= .Assign [.Attribute (.Name (Qb "self") o) (Qb x) U] (.Name (Qb x) J) B::r/\mIni sc xs r=Jc) Y λt v s H O=> ?_;refine xW (P:=λt=>X5 λo U J B r=> .Assign [t] v s::T= .Assign [.Attribute (.Name (Qb "self") o) (Qb x) U] (.Name (Qb x) J) B::r/\mIni sc xs r=Jc) H λz p n o0 o0=> ?_;refine i5 (P:=λz=>X5 λo U J B r=> .Assign [.Attribute z (Qb x) p] v s::T= .Assign [.Attribute (.Name (Qb "self") o) (Qb x) U] (.Name (Qb x) J) B::r/\mIni sc xs r=Jc) n λq o0 o0=> ?_;exact i5 (P:=λv=>X5 λo U J B r=> .Assign [.Attribute (.Name (Qb "self") q) (Qb x) p] v s::T= .Assign [.Attribute (.Name (Qb "self") o) (Qb x) U] (.Name (Qb x) J) B::r/\mIni sc xs r=Jc) O λZ o0 o0=>⟨_,_,_,_,_,rfl,Q⟩
noncomputable def addF(m:Jq->Option Jf)(names:List String)(v:Jq->Option Jf):Jq->Option Jf:=names.foldl (λa x=>λy=>if y=Qb x then m (Qb x) else a y) v
theorem jK(m:Jq->Option Jf)(x:String)(xs:List String)(v:Jq->Option Jf):addF m (x::xs) v=addF m xs (λy=>if y=Qb x then m (Qb x) else v y):=rfl
theorem oL(m:Jq->Option Jf):∀ (names:List String) (v:Jq->Option Jf) (y:Jq),(y∈names.map Qb\/v y=m y)->addF m names v y=m y
 |[]=>λv y h=>by rcases h with h|h;cases h;exact h
 |x::s=>λv y h=>by
  rw[jK];refine oL m s _ y ?_;by_cases e:y=Qb x
  ·exact .inr<|by rw[Uh e,e]
  ·refine h.imp (λh=> ?_) λh=>by rw[Ug e];exact h
   rcases Qx.mp h with h|h
   ·exact absurd h e
   ·exact h
theorem qX(m:Jq->Option Jf):∀ (names:List String) (v:Jq->Option Jf) (y:Jq),(∀f∈names,y≠Qb f)->v y=Jb->addF m names v y=Jb
 |[]=>λv y o0 h=>h
 |x::s=>λv y q h=>by
  rw[jK];refine qX m s _ y (λf j=>q f<|.tail _ j) ?_;rw[Ug (q x<|.head _)];exact h
section
variable{prog:Jn}{w:Jm}{A:Jj}{E:Jf->Je->Prop}
variable{nm q:Jq}{C N x:Jg}{bs bm:List Jf}{sn:List Jq}{sub:List Jf}{ab:Bool}{col:Option Bool}{dd:Option Jg}{k0 k1 k2 k3 k5:Option Jf}{newId:String}
structure Made(h₀:Ji)(e C:Jg)(vs:Array Jf)(mA:Jq->Option Jf)(h:Ji):Prop where
 keep:∀b o,b≠e->h₀.get? b=Ja o->h.get? b=Ja o
 inst:h.Inst e C mA
 obj:∃dx,h.get? e=Ja {cls:= .ref C,dict:=dx,data:= .fields vs,slots:= #[]}
 own:∀o dx,h.get? e=Ja o->o.dict=Ja dx->h₀.get? dx=Jb
theorem pu{env:Js}{m:Jq->Option Jf}{h₀ B:Ji}(j:env.scope.kind= .function)(hl:env.kindOf (Qb "self")=Ja .local)(R:env.locals=L)(hs:m (Qb "self")=Ja (.ref e))
  (n:h₀.Ns L m)(G:L≠e)(T:J8 B bmE bm)(u:B.get? C=Ja (JG nm q C N bs bm Jc sn sub ab col dd k0 k1 k2 k3 k5 newId))
  (Ls:Looks (Jt prog w) B (J6 (.ref C) "__setattr__") (Ja<|.builtin "object.__setattr__"))(c:∀b o,B.get? b=Ja o->b≠e/\h₀.get? b=Ja o){Q:Flow->Je->Prop}:
  ∀ (names:List String) (body:List Jo) (K:Jq->Option Jf) (ns:List Jq) (s:Je),mIni sc names body=Jc->Made h₀ e C vs K s.heap->Within K ns->ns.length+names.length<=100->
   (∀x∈names,env.kindOf (Qb x)=Ja .local/\(∃v,m (Qb x)=Ja v)/\((Qb x==("__debug__":Jq))=Jd)/\Looks (Jt prog w) B (J6 (.ref C)<|Qb x) Jb)->
   (∀W tk,Made h₀ e C vs (addF m names K) W->Q .next {s with heap:=W,toks:=tk})->Jh (Jt prog w) A (execs body env) Q E s
 |[]=>λbody K ns s D M H J hx k=>by
  rw[tO D];exact JO<|k s.heap s.toks M
 |x::xs=>λbody K ns s D M H J hx k=>by
  obtain⟨p1,p2,p3,p4,r,rfl,i⟩:=sM D;obtain⟨x1,⟨v,O⟩,x3,x4⟩:=hx x<|.head _;have V:=n.at' λo Z=>M.keep L o G Z;refine YJ<|plainObj_wpAny_Assign_Attribute ?_ ?_
  ·refine YK (YW j x1 (R▸V) O ?_) x3;refine YK (YW j hl (R▸V) hs ?_) (by decide+kernel);obtain⟨h,g,d,tk,os⟩:=s;have p:∀b o,B.get? b=Ja o->h.get? b=Ja o:=λb o Z=>M.keep b o (c b o Z).1 (c b o Z).2;refine se (ns:=ns) (T.keeps p) (p _ _ u) (x4.keeps p) (Ls.keeps p) M.inst (λW a S=> ?_) H (by rw[JZ];exact zle (QV _ _)<|zb2 J rfl);refine pu (vs:=vs) j hl R hs n G T u Ls c xs r (λy=>if y=Qb x then Ja v else K y) (Qb x::ns) {heap:=W,gens:=g,drawn:=d,toks:=a,os:=os} i ?_ (Within.cons _ v H) (by simp only[Wi] at J ⊢;exact zle (QS<|QP _ _ _) J) (λy hy=>hx y<|.tail _ hy) (λI t M'=> ?_)
   ·refine⟨λb o hb Z=>S.keep b o hb (λU l f F q=> ?_)<|M.keep b o hb Z,S.inst,?_,λo l Z ed=> ?_⟩
    ·subst q;rw[M.own U _ f F] at Z;cases Z
    ·obtain⟨d0,h0⟩:=M.obj;obtain⟨⟨c1,d1,ac,aa⟩,f,F,P,e4,o0⟩:=S.obj _ h0;refine⟨d1,?_⟩;rw[f];simp only at F P e4;rw[F,P,e4]
    ·obtain⟨o',Y,o0⟩:=M.inst
     rcases S.fresh o l Z ed with q|⟨U,q1,q2⟩
     ·induction z:h₀.get? l with
      |none=>rfl
      |some oz=>
       by_cases X:l=e
       ·subst X;rw[Y] at q;cases q
       ·rw[M.keep l oz X z] at q;cases q
     ·exact M.own U l q1 q2
   ·rw[jK,O] at k;exact k I t M'
  ·rfl
theorem lT{h:Ji}{d:Drawn}(T:J8 h bmE bm){m:Jq->Option Jf}{rest:List Jf}{S:Jp}{Q:Fin->Je->Prop}
  (M:h.get? C=Ja (JG nm q C N bs bm y sn sub ab col dd k0 k1 k2 k3 k5 "ValueError.__new__"))(n:h.Ns N m)(hi:m "__init__"=Ja (.ref I))(p:h.get? I=Ja S)(f:S.cls= .type "function")
  (H:∀W e,Heap.MadeExcOf h W e (.ref C) rest->Jh (Jt prog w) A (call (.ref I) (.ref e::rest)) (λr s'=>r= .none/\Q (.done<|.ret (.ref e)) s') E ⟨W,g,d,t,s⟩)(hrest:rest.length<=JM):
  Jh (Jt prog w) A (Builtin.«type.__call__» ⟨.ref C::rest,[]⟩) Q E ⟨h,g,d,t,s⟩:=by
 have F:=PySem.F.excBase_ValueError
 repeat (first|with_reducible refine Jz M ?_|with_reducible refine wpAny_madeBy_exc M ?_|wp_step)
 refine codeAny_call_builtin_code (Code.quiet_builtin _ F.quiet) (wpAny_check_new_subT F T M ?_);refine codeAny_exc_new_subT F T M ?_ hrest;show Jh _ _ _ _ _ _;have kp:∀b o,h.get? b=Ja o->((h.push {cls:= .type "tuple",data:= .seq rest.toArray}).push {cls:= .ref C,data:= .fields #[.ref h.objs.size,.none,.none,.none,.bool Jd,.none]}).get? b=Ja o:=λb o e=>Qm _ (Qm _ e);have l:=kp _ _ M;have c:((h.push {cls:= .type "tuple",data:= .seq rest.toArray}).push
   {cls:= .ref C,data:= .fields #[.ref h.objs.size,.none,.none,.none,.bool Jd,.none]}).get? (h.objs.size+1)=Ja
   {cls:= .ref C,data:= .fields #[.ref h.objs.size,.none,.none,.none,.bool Jd,.none]}:=by heap_get
 have i:(Value.ref C::bm).contains (.ref C)=Jc:=by simp
 unfold isInstance
 repeat (first|with_reducible refine Jz c ?_|(with_reducible refine Y0 l ?_;rw[i])|wp_step)
 show Jh _ _ (J6 (.ref C) _) _ _ _;refine wpAny_typeLookup_tail l (n.keeps kp) (T.keeps kp) F.mroIs F.init.lookup ?_;rw[hi];refine YE<|YA ?_;unfold bindSpecial;refine YA<|wpAny_typeOf (T:="function") ⟨_,kp _ _ p,f⟩ ?_;rw[Uh (by decide)];refine YB<|YA (YC (H _ (h.objs.size+1) ⟨kp,WL<|WG _,h.objs.size,c,WL<|QA _,?_⟩) (λr s' z=> ?_) λo0 o0 x=>x)
 ·exact Qm _<|Heap.get?_push_at rfl rfl
 ·obtain⟨rfl,X⟩:=z
  wp_walk
  exact X
theorem tT{h:Ji}{d:Drawn}(T:J8 h bmE bm){m:Jq->Option Jf}{rest:List Jf}{V:Jp}{Q:Jf->Je->Prop}
  (M:h.get? C=Ja (JG nm q C N bs bm c sn sub ab col dd k0 k1 k2 k3 k5 "ValueError.__new__"))(n:h.Ns N m)(hi:m "__init__"=Ja (.ref I))(p:h.get? I=Ja V)(f:V.cls= .type "function")
  (z:∀S e,Heap.MadeExcOf h S e (.ref C) rest->
   Jh (Jt prog w) (A.under (.builtin "type.__call__" ⟨.ref C::rest,[]⟩)) (call (.ref I) (.ref e::rest)) (λr s'=>r= .none/\Q (.ref e) s') E ⟨S,g,d,t,o⟩)(hrest:rest.length<=JM):
  Jh (Jt prog w) A (call (.ref C) rest) Q E ⟨h,g,d,t,o⟩:=by
 have B:=tc_lookup;have R:=tc_bind<|.ref C;have Y:(⟨h,g,d,t,o⟩:Je).TypeIs (.ref C) "type":=⟨_,M,rfl⟩
 refine YM<|codeAny_of_tree ?_;show Jh _ _ (callAny (.ref C) _) _ _ _
 repeat (any_goals (first|assumption|with_reducible refine Jz M ?_|wp_step))
 refine⟨rfl,?_⟩;refine codeAny_call_builtin_at (Code.quiet_builtin _<|by decide+kernel) entry_typeCall<|wpAny_check_type_call_sub M (lT T M n hi p f (λS e L=> ?_) hrest);exact z S e L
end
section
theorem mz{h S:Ji}(k:∀b o,h.get? b=Ja o->S.get? b=Ja o)(n:S.get? e=Jb):h.get? e=Jb:=by
 induction q:h.get? e with
 |none=>rfl
 |some o=>exact ns<|n.symm.trans (k e o q)
theorem yv{C:Cx}{H D Y:Ji}{fl:List String}{ps:List PV}{m:Jq->Option Jf}(j:fl=C.flds c)(U:fl≠ [])(l:ps.length=fl.length)(k:(g=Jb/\∀n,m n=Jb)\/∃d,g=Ja d/\d≠e/\Y.Ns1 d m)
  (L:∀ (i:Nat) f v,fl[i]? =Ja f->vs[i]? =Ja v->m (Qb f)=Ja v)(hv:VRs C σ1 D ps vs)(kp:∀p v,VR C σ1 D p v->VR C σ1 Y p v)(T:∀x,(∀f∈fl,x≠Qb f)->m x=Jb)(r:∀d,g=Ja d->A3 (C.B.get? d=Jb) (σ1 d=Jb) (H.get? d=Jb)):FF C ⟨c,ps⟩ σ1 H Y g:=by
 have K:ps≠ []:=λq=>U<|List.eq_nil_of_length_eq_zero (l.symm.trans<|congrArg Yy q)
 rcases k with⟨o0,b⟩|⟨d,rfl,o0,P,J,I,o,X,s,o0,S⟩
 ·exfalso;obtain⟨z,zs,rfl⟩:=WN U;obtain⟨p,Z,rfl⟩:=WN K;obtain⟨v,h,o0⟩:=hv.get 0 p rfl;exact ns<|(b _).symm.trans (L 0 z v rfl h)
 ·obtain⟨B,Q,G⟩:=r d rfl;refine .at_ K d P rfl B Q G o ⟨J,I,X,s,λi f p D Y=> ?_,λx q=>(S x).trans (T x λf R=>q f<|j▸R)⟩;obtain⟨v,h,a⟩:=hv.get i p Y;exact⟨v,(S _).trans (L i f v (j▸D) h),kp _ _ a⟩
theorem yr(h:a+n+2<L):a+1<L:=Ko (Kg (QV a n)<|by decide) h
theorem vW(q:n<=50):([]:List Jq).length+n<=100:=(Ww n).symm▸QD q (by decide)
theorem IniAt.ex{B:Ji}{K:Frag}{k:Jg}{names:List String}(x:IniAt B K k names):ExCls B k:=by
 obtain⟨bm,N,nm,q,bs,sn,sub,ab,col,dd,k0,k1,k2,k3,k5,m,f,o,d,b,h,a,i,T⟩:=x;exact⟨nm,q,N,bs,bm,Jc,sn,sub,ab,col,dd,k0,k1,k2,k3,k5,_,h,T.hasType<|by decide+kernel⟩
inductive IM(h₁:Ji)(e k:Jg)(names:List String)(vs:List Jf)(s₁ s₂:Je):Prop
 |mk (t:Jg) (dx:Option Jg) (mA:Jq->Option Jf) (go:s₂.heap.get? e=Ja {cls:= .ref k,dict:=dx,data:= .fields #[.ref t,.none,.none,.none,.bool Jd,.none]}) (keep:∀b o,b≠e->h₁.get? b=Ja o->s₂.heap.get? b=Ja o)
  (hdi:(dx=Option.none/\∀n,mA n=Option.none)\/∃d,dx=Ja d/\d≠e/\s₂.heap.Ns1 d mA) (own:∀d,dx=Ja d->h₁.get? d=Option.none) (hm:∀ (i:Nat) f v,names[i]? =Ja f->vs[i]? =Ja v->mA (Qb f)=Ja v) (ho:∀x,(∀f∈names,x≠Qb f)->mA x=Option.none) (rest:Rest s₁ s₂):IM h₁ e k names vs s₁ s₂
theorem IM.rm{C:Cx}{W:Ji}{s s₁ u l:Je}{names:List String}{ps:List PV}(i:IM W e k names vs u l)(R:Rest s₁ u)(kp:∀b o,s₁.heap.get? b=Ja o->W.get? b=Ja o)(new:s₁.heap.get? e=Jb)(m:Sim C σ1 s₁.heap)(P:Step none1 σ s.heap σ1 s₁.heap)(hv:VRs C σ1 s₁.heap ps vs)(f:names=C.flds c)(h:names≠ [])(T:ps.length=names.length):RM C c k (ps.take names.length) σ1 s.heap s₁ (.ref e) l:=by
 obtain⟨t,D,v,g,keep,G,own,L,a,y⟩:=i;have p:∀b o,s₁.heap.get? b=Ja o->l.heap.get? b=Ja o:=λb o q=>keep b o (λz=>ns<|new.symm.trans (z▸q))<|kp b o q;rw[WF (QS T)];refine⟨e,t,D,rfl,new,g,p,R.trans y,yv f h T G L hv (λo0 o0 r=>r.step<|Step.more (S:=none1) p) a λd q=> ?_⟩;have H:=mz kp<|own d q;exact⟨(dp m H).1,(dp m H).2,P.live _ H⟩
theorem vA{C:Cx}{A:Jj}{nm q:Jq}{bs bm:List Jf}{sn:List Jq}{sub:List Jf}{oI:Jp}{S:Jr}{names:List String}{vs:List Jf}{s:Je}{E:Jf->Je->Prop}
  (V:∀b o,C.B.get? b=Ja o->b≠e/\s.heap.get? b=Ja o)(K:s.heap.get? e=Ja {cls:= .ref k,data:= .fields #[.ref t,.none,.none,.none,.bool Jd,.none]})(P:A.depth<J7)(y:C.B.NoLimit)(aa:vs.length=names.length)(j:Frag.In C.K C.B)(ak:∀f∈names,findIn C.K (.ref k) (Qb f)=Ja Jb)
  (hC:C.B.get? k=Ja (JG nm q k N bs bm Jc sn sub ab col dd k0 k1 k2 k3 k5 newId)) (T:J8 C.B bmE bm) (I:C.B.get? fI=Ja oI) (an:oI.data= .func S) (W:C.B.CodeRec S.code S.qualname) (ae:S.body= .stmts body) (u:S.closure=[]) (l:Y5 S ⟨.ref e::vs,[]⟩=pure ((("self"::names).map Qb).zip (.ref e::vs)))
  (h:∀x∈"self"::names,S.scope.names.lookup (Qb x)=Ja .local/\(Qb x==("__debug__":Jq))=Jd) (aj:("self"::names).Nodup) (ah:S.scope.isCoroutine=Jd) (Q:S.scope.isGenerator=Jd) (O:S.scope.kind= .function)
  (Y:mIni S.scope names body=Jc) (am:findIn C.K (.ref k) "__setattr__"=Ja (Ja<|.builtin "object.__setattr__")) (H:names.length<=50):
  Jh (Mo C) A (call (.ref fI) (.ref e::vs)) (λr s'=>r= .none/\IM s.heap e k names vs s s') E s:=by
 have p:∀b o,C.B.get? b=Ja o->s.heap.get? b=Ja o:=λb o q=>(V b o q).2;refine YM<|codeAny_call_cells P (p _ _ I) an (y.keeps p) (W.keeps p) ae l u (λx ad=> ?_) (λm Z=> ?_) ah Q O
 ·have af:x.1∈("self"::names).map Qb:=(Kr (show(x.1,x.2)∈_ from ad)).1;obtain⟨z,R,ez⟩:=Ql.mp af;rw[<-ez];exact .inl (h z R).1
 generalize L:callEnvC S s.heap.objs.size fI=n at Z ⊢;have c:n.locals=s.heap.objs.size:=by rw[<-L];rfl
 have g:∀x,n.kindOf x=S.scope.names.lookup x:=λx=>by rw[<-L];rfl
 have ac:n.scope.kind= .function:=by rw[<-L];exact O
 have kp:∀b o,s.heap.get? b=Ja o->m.heap.get? b=Ja o:=Z.toInCall.keep;have a:∀i z v,("self"::names)[i]? =Ja z->(Value.ref e::vs)[i]? =Ja v->bindL n.kindOf ((("self"::names).map Qb).zip (Value.ref e::vs)) (λo0=>Jb) (Qb z)=Ja v:=λi z v X F=>
  kZ _ _ _ i _ v (cL aj) (by rw[Qw,X];rfl) F (by rw[g];exact(h z<|QE X).1)
 have J:n.locals≠e:=by rw[c];exact KL<|QH K
 refine pu (sc:=S.scope) (vs:= #[.ref t,.none,.none,.none,.bool Jd,.none]) (h₀:=m.heap) (B:=C.B) (C:=k) (e:=e) ac (by rw[g];exact(h _<|.head _).1) rfl (a 0 "self" (.ref e) rfl rfl) Z.toInCall.ns J T hC (looks_findIn j am) (λb o q=>⟨(V b o q).1,kp b o (V b o q).2⟩)
  names body (λo0=>Jb) [] m Y ⟨λb o o0 U=>U,⟨_,kp _ _ K,rfl,(λcc q=>by cases q),.inl ⟨rfl,λo0=>rfl⟩⟩,⟨Jb,kp _ _ K⟩,λo dx U ed=>by obtain rfl:=sj<|(kp _ _ K).symm.trans U;exact ns ed⟩ Within.nil (vW H) (λz R=> ?_) (λF aq M=> ?_)
 ·obtain⟨i,G,rfl⟩:=Wh R;have al:i<vs.length:=aa.symm▸G;refine⟨by rw[g];exact(h _<|.tail _ R).1,⟨vs[i],a (i+1) _ _ (by rw[List.getElem?_cons_succ];exact Qf G)<|by rw[List.getElem?_cons_succ];exact Qf al⟩,(h _<|.tail _ R).2,looks_findIn j<|ak _ R⟩
 ·obtain⟨dx,go⟩:=M.obj;obtain⟨ap,ao,D⟩:=Z.toInCall.same;obtain⟨oi,gi,o0,o0,ai⟩:=M.inst;obtain rfl:=sj<|go.symm.trans gi;exact⟨rfl,t,dx,_,go,λb o hb q=>M.keep b o hb<|kp b o q,ai,λd q=>mz kp<|M.own _ d go q,λi f v X F=>(oL _ _ _ _<|.inl (Ql.mpr ⟨f,QE X,rfl⟩)).trans (a (i+1) f v X F),λx q=>qX _ _ _ _ q rfl,⟨by rw[D],by rw[D]⟩⟩
theorem sp{C:Cx}{G:Gx}{S K:Jq->Option Jf}(g:GOK C G S K)(X:ExcOK C G S K)(z:C.calm){args:List E}(w3:G.inis.contains c=Jc)(U:args.length=(G.flds c).length){sc:Jk}{as:List Jl}{py p q:Y8}(h5:sc.names.lookup (Qb c)=Ja .globalImplicit)(h6:bB (Qb c)=Jc)(h3:as.length<=20)(ha:Evs C G n sc args as):StK C G n sc (.raise c args) (.Raise (Ja (.Call (.Name (Qb c) py) as [] p)) Jb q):=by
 obtain⟨k,hk,I⟩:=X.ini c w3;refine l6 g X z hk I.ex ?_ h5 h6 h3 ha;obtain⟨bm,N,nm,q',bs,sn,sub,ab,col,dd,k0,k1,k2,k3,k5,mN,fI,oI,fd,F,M,hN,hi,T,D,Z,J,W,B,u,i,L,O,V,Q,d,a,y,H⟩:=I;intro A l σ aa s j ps vs E ak hv m P R hl;have v:vs.length=(G.flds c).length:=(hv.length.trans R).trans U;refine tT (T.keeps m.base) (m.base _ _ M) (hN.keeps m.base) hi (m.base _ _ D) Z (λh' e hx=> ?_) hl;obtain⟨t,e1,o0,o0⟩:=hx.there;refine YC (vA (e:=e) (λb o Y=>⟨λq=>ns<|(dp m hx.new).1.symm.trans (q▸Y),hx.keeps b o<|m.base b o Y⟩) e1 (yr ak.depth) g.nolimit v X.kin (λf hf=>X.fld c k _ hk hf) M T D J W B u (i _ (Uk (· +1) v)) L O V Q d a y H.2) (λr s2 h=>⟨h.1,h.2.rm ⟨rfl,rfl⟩ hx.keeps hx.new m P hv (X.fl c) H.1<|R.trans U⟩) λo0 o0 x=>x
theorem qA{C:Cx}{U m:Jq->Option Jf}(g:GOK C G U m)(X:ExcOK C G U m)(a:C.calm){args:List E}{sc:Jk}{as:List Jl}{py p q:Y8}(B:sc.names.lookup (Qb c)=Ja .globalImplicit)(W:bB (Qb c)=Jc)(J:as.length<=20)(T:Evs C G n sc args as):StK C G n sc (.raise c args) (.Raise (Ja (.Call (.Name (Qb c) py) as [] p)) Jb q):=λI w=>by
 rcases w.1.2.2 with h|h
 ·exact pA g X a h B W J T I w
 ·exact sp g X a h.1 h.2 B W J T I w
end
end
section
open PySem.W PyProof.Rows
section
variable{C:Cx}{G:Gx}{mg mb:Jq->Option Jf}{n:Nat}{A:Jj}{Er:Jf->Je->Prop}{env:Js}{ρ:Rho}{σ:PH}{s:Je}{l:List Js}
theorem mo{g W:Jp}{Q:Unit->Je->Prop}(O:s.heap.get? a=Ja g)(v:g.data= .fields vs)(N:vs[1]? =Ja (.ref T))(Y:s.heap.get? T=Ja W)(U:W.data= .fields ts)
  (J:ts[3]? =Ja .none)(h:∀S,(∀b o,s.heap.get? b=Ja o->S.get? b=Ja o)->Q () {s with heap:=S}):Jh (Mo C) A (JW (.ref a) Jb) Q Er s:=by
 have z:=(KD.mp J).1;refine wpAny_setFlight_none O v N Y U z (h _ λb o e=> ?_);have same:ts.setIfInBounds 3 .none=ts:=by
  apply Array.ext
  ·simp
  ·intro i N p;rw[Array.getElem_setIfInBounds]
   split
   ·rename_i q;subst q;exact((KD.mp J).2).symm
   ·rfl
 have P:W.mapFields (·.setIfInBounds 3 .none)=W:=by
  obtain⟨c,d,t,B⟩:=W;simp only at U;subst U;simp only[Obj.mapFields,same]
 by_cases q:b=T
 ·subst q;obtain rfl:=sj<|Y.symm.trans e;rw[Ka _ Y (Obj.isFreed_of_fields<|Obj.data_mapFields U _),P]
 ·rw[Km _ _ (λe=>q e.symm)];exact e
theorem EnvR.stepF{S:Jg->Prop}{h u:Ji}(x:EnvR C env ρ σ h)(st:Step S σ h σ' u)(R:∀b o,S b->h.get? b=Ja o->∃vs,o.data= .fields vs):EnvR C env ρ σ' u where
 fn:=x.fn
 glob:=x.glob
 blt:=x.blt
 ns:=by
  obtain⟨m,F,hv⟩:=x.ns;refine⟨m,Ns.like F λo e=> ?_,λy p T w=>by obtain⟨v,a,b⟩:=hv y p T w;exact⟨v,a,b.step st⟩⟩;obtain⟨o0,i,g,k⟩:=st.keep _ o e x.newL;obtain⟨P,U,H,w,W,o0⟩:=F;obtain rfl:=sj<|e.symm.trans w;exact⟨i,g,k λf=>by obtain⟨vs,q⟩:=R _ o f e;rw[W] at q;cases q⟩
 cell:=λy p T w=>by
  obtain⟨c,v,a,b,d⟩:=x.cell y p T w;refine⟨c,v,a,IsCell.like b λo e=> ?_,d.step st⟩;obtain⟨o0,i,g,k⟩:=st.keep _ o e (x.newC _ c a).1;obtain⟨P,w,W⟩:=b;obtain rfl:=sj<|e.symm.trans w;exact⟨i,g,k λf=>by obtain⟨vs,q⟩:=R _ o f e;rw[W] at q;cases q⟩
 newL:=by
  obtain⟨m,⟨o,U,H,e,o0⟩,o0⟩:=x.ns;exact(st.keep _ o e x.newL).1
 newC:=λy c e=>by
  obtain⟨a,v,o,b,d⟩:=x.newC y c e;obtain⟨q,i,g,k⟩:=st.keep _ o b a;exact⟨q,v,i,g,(k λf=>by obtain⟨vs,q⟩:=R _ o f b;rw[d] at q;cases q).2.2.1.trans d⟩
 baseL:=x.baseL
 baseC:=x.baseC
 apart:=x.apart
 hasC:=x.hasC
theorem AOK.stepF{S:Jg->Prop}{h W:Ji}(x:AOK C n A l σ h)(st:Step S σ h σ' W)(R:∀b o,S b->h.get? b=Ja o->∃vs,o.data= .fields vs):AOK C n A l σ' W:=
 ⟨x.depth,x.units,x.stack,(x.frs.step st λd O L w f=>by
  obtain⟨o0,r,i,U,m,T,o0,o0,e,V⟩:=x.frs d O;obtain rfl:=sj (w.symm.trans T);obtain⟨vs,q⟩:=R L i f e;rw[V] at q;cases q),x.calm,x.hd.step st⟩
theorem EnvR.adopt{h:Ji}{D:Jg}(x:EnvR C env ρ σ h)(nt:∀ws k,h.get? D≠Ja (tupO ws k))(r:env.locals≠D)(Z:∀y c,env.cells.lookup y=Ja c->c≠D):EnvR C env ρ (σ.set D po) h:=by
 refine⟨x.fn,x.glob,x.blt,?_,λy p T e=> ?_,?_,x.baseL,x.baseC,λy c q=> ?_,x.apart,x.hasC⟩
 ·obtain⟨m,g,hv⟩:=x.ns;exact⟨m,g,λy p T e=>by obtain⟨v,a,b⟩:=hv y p T e;exact⟨v,a,VR.adopt nt _ _ b⟩⟩
 ·obtain⟨c,v,a,b,d⟩:=x.cell y p T e;exact⟨c,v,a,b,VR.adopt nt _ _ d⟩
 ·rw[PH.set_ne _ _ r];exact x.newL
 ·obtain⟨a,v,o,b,d⟩:=x.newC y c q;exact⟨by rw[PH.set_ne _ _ (Z y c q)];exact a,v,o,b,d⟩
theorem HdR.adopt{D:Jg}(x:HdR A σ)(h:σ D=Jb):HdR A (σ.set D po):=x.imp id λz=>by obtain⟨a,c,d,e,q⟩:=z;exact⟨a,c,d,e,by
 rw[PH.set_ne]
 ·exact q
 ·rintro rfl;exact ns (h.symm.trans q)⟩
theorem AOK.adopt{D:Jg}(x:AOK C n A l σ h)(E:σ D=Jb)(f:∀e∈l,∀L,e.frame=Ja L->L≠D):AOK C n A l (σ.set D po) h:=
 ⟨x.depth,x.units,x.stack,(λe O=>by
  obtain⟨k,L,o,U,m,T,w,X,u,V⟩:=x.frs e O;exact⟨k,L,o,U,m,T,w,by rw[PH.set_ne _ _ (f e O L T)];exact X,u,V⟩),x.calm,x.hd.adopt E⟩
theorem lj:∀ {ρ:Rho} {x:String} {p:PV},ρ.wipe.get x=Ja p->False
 |[],x,p,h=>by exact ns h
 |(y,o)::r,x,p,h=>by
  have h:(if y=x then Jb else Rho.get (Rho.wipe r) x)=Ja p:=h
  split at h
  ·exact ns h
  ·exact lj h
theorem sE{K:Unit->Je->Prop}(v:EnvR C env ρ σ s.heap)(m:Sim C σ s.heap)(hx:env.kindOf (Qb x)=Ja .local)
  (O:∀s',Asg C env (slot env [x]) σ s.heap s'.heap->EnvR C env ρ.wipe σ s'.heap->Rest s s'->K () s'):Jh (Mo C) A (do bindName env (Qb x) .none;unbindBehindTheSuite env (Qb x) pos) K Er s:=by
 obtain⟨mm,I,E⟩:=v.ns;have D:(env.scope.kind== .class||(env.scope.kind== .module&&env.locals !=env.globals))=Jd:=by rw[v.fn];rfl
 refine wpAny_nameGoes hx I D λR m' d h=> ?_;have F:∀c,slot env [x] c->c=env.locals:=by
  rintro c ⟨y,Q,q|q⟩
  ·exact q.2
  ·rw[Qk] at Q;subst Q;rw[hx] at q;cases q.1
 obtain⟨o,es,ep,Y,W,o0⟩:=id I;obtain⟨V,g,p,J,S,o0⟩:=id d;have mv:Mv (slot env [x]) s.heap R:=λc o f e=>h.extBut c o (λq=>f ⟨x,Qk.mpr rfl,.inl ⟨hx,q⟩⟩) e;have N:Fok C σ s.heap (slot env [x]):=λc f=>by
  have:=F c f;subst this;exact⟨v.baseL,.inl ⟨v.newL,gC Y<|cG W⟩⟩
 have i:∀c,slot env [x] c->σ c=Ja .hid->∃a b,R.get? c=Ja (tupO #[a,b] 0):=λc f q=>by
  have:=F c f;subst this;exact ns<|v.newL.symm.trans q
 have t:∀y c,env.cells.lookup y=Ja c->c≠env.locals:=by
  rintro y c q rfl;obtain⟨o0,v1,P,H,Z⟩:=v.newC y _ q;obtain rfl:=sj<|Y.symm.trans H;rw[W] at Z;cases Z
 refine O _ ⟨mv,N,λl f=> ?_,m.mv mv N i,λc f=> ?_⟩ ?_ ⟨rfl,rfl⟩
 ·intro M z;obtain⟨k,L,P,B,U,T,j,X,u,r⟩:=f M z;by_cases q:L=env.locals
  ·subst q;exact⟨k,_,V,g,p,T,j,X,J,S⟩
  ·exact⟨k,L,P,B,U,T,j,X,h.extBut _ _ q u,r⟩
 ·have:=F c f;subst this;exact⟨λP q=>by obtain rfl:=sj<|Y.symm.trans q;exact cG W,V,J,cG S⟩
 ·exact⟨v.fn,v.glob,v.blt,⟨_,d,λy q T o0=>(lj T).elim⟩,λy q T o0=>(lj T).elim,v.newL,v.baseL,v.baseC,λy c e=>by
   obtain⟨a,w,b⟩:=v.newC y c e;exact⟨a,w,b.sameBut h (t _ c e)⟩,v.apart,v.hasC⟩
theorem pR{sc:Jk}(h:jV sc x m=Jc):(m=Jb/\x="")\/(m=Ja (Qb x)/\x≠""/\sc.names.lookup (Qb x)=Ja .local):=by
 induction m with
 |none=>exact .inl ⟨rfl,beq_iff_eq.mp h⟩
 |some y=>
  have h:(x !=""&&Vl.Internal.nm y x&&sc.names.lookup y==Ja .local)=Jc:=h;obtain⟨N,p,J⟩:=and3 h;rw[nmE p] at J ⊢;exact .inr ⟨rfl,bne_iff_ne.mp N,beq_iff_eq.mp J⟩
theorem FR.mv{F:Jg->Prop}{h S:Ji}{fl:Fl}(x:FR C σ h fl f)(mv:Mv F h S)(fo:Fok C σ h F):FR C σ S fl f:=by
 induction fl with
 |next=>exact x
 |ret p=>obtain⟨v,e,hv⟩:=x;exact⟨v,e,hv.mv mv fo⟩
theorem yb{fl:Fl}(x:FR C.un σ h fl f):FR C σ h fl f:=by
 induction fl with
 |next=>exact x
 |ret p=>obtain⟨v,e,hv⟩:=x;exact⟨v,e,by rw[iX] at hv;exact hv⟩
end
end
section
open PySem.W PyProof.Rows
noncomputable def came(e:Jf)(env:Js):Sem Unit:=do
 if(<-field e 1)== .none then unsupported "frame.own-activation:exception-without-traceback"
 JW e env.frame
section
variable{C:Cx}{G:Gx}{mg mb:Jq->Option Jf}{n:Nat}{A:Jj}{env:Js}{ρ:Rho}{σ:PH}{s:Je}{l:List Js}
theorem SX.pass(tf:TopF env l)(x:SX C n A l env σ s X e s'):notedBy (Mo C) A env (cameBackBy (Mo C) A env (SX C n A l env σ s X)) e s':=by
 obtain⟨D,j,m,fl,v,c,P,r,k,w⟩:=x;obtain⟨b,rfl,h⟩:=id tf;have key:=jM (fo:=env.frame) (K:=came e env) (Er:=λo0 o0=>False) (Q:=λo0 W=>SX C n A (env::b) env σ s X e W) k.stack k.frs h c fl (λL q=>by obtain rfl:=sj<|h.symm.trans q;rfl) P (λa t i U T y N p H R=> ?_) λS M f o O E=> ?_
 ·exact YC key (λo0 B p=>YC p (λo0 o0 z=>z) λo0 o0 z=>z.elim) λo0 o0 z=>z.elim
 ·subst y;unfold came;refine YA<|YD N p H ?_;rw[Ug (show ¬ ((Value.ref T==Value.none)=Jc) from QC)];exact R
 ·obtain⟨F,stF,J⟩:=O;exact⟨D,j,m,f,v.stepF stF J,M,o,r,k.stepF stF J,w⟩
structure WhAt(C:Cx)(env:Js)(n:Nat)(A:Jj)(l:List Js)(go:Rho->PH->Prop)(σ:PH)(s:Je)(ρ':Rho)(σ':PH)(s':Je):Prop where
 m:Sim C σ' s'.heap
 ev:EnvR C env ρ' σ' s'.heap
 step:Step (ownE env) σ s.heap σ' s'.heap
 rest:Rest s s'
 ak:AOK C n A l σ' s'.heap
 go:go ρ' σ'
theorem vK(ht:TsOK C G n sc t u)(hb:StsK C G n sc b y):StK C G n sc (.while_ t b) (.While u y [] pos):=λ{env ρ A l σ s Q X} R w=>by
 obtain⟨o0,k,w⟩:=w;refine wpAny_While<|codeAny_whileLoop (λg s'=>∃O T,WhAt C env n A l (whGo (λρ σ K=>we G (aO C n) t ρ σ (λv m=>cU (λc=>K c m) v) λx m=>X x ρ m) (λρ σ K=>wss G (aO C n) (aO C.un n) b ρ σ K X) Q g) σ s O T s') ?_ k ⟨ρ,σ,R.m,R.ev,.refl _ _ _,.refl s,R.ak,w⟩;intro g s' hI;obtain⟨O,T,I⟩:=hI
 induction g using Nat.casesOn with
 |zero=>exact I.go.elim
 |succ j=>
  have J:∀ {m:PH} {W:Je} {e:Jf} {Z:Je},Step (ownE env) σ s.heap m W.heap->Rest s W->SX C n A l env m W X e Z->notedBy (Mo C) A env (cameBackBy (Mo C) A env<|SX C n A l env σ s X) e Z:=λst r z=>SX.pass R.tf (SX.from st r z);refine YC (ht (K:=λc m=>if c then wss G (aO C n) (aO C.un n) b O m (onFl (λN U=>whGo (λρ σ K=>we G (aO C n) t ρ σ (λv m=>cU (λc=>K c m) v) λx m=>X x ρ m) (λρ σ K=>wss G (aO C n) (aO C.un n) b ρ σ K X) Q j N U) Q) X else Q .next O m) (X:=λx m=>X x O m) ⟨R.sr,I.ev,I.m,I.ak⟩ I.go) (λc W h=> ?_) λe Z z=>J I.step I.rest<|XP.stmt I.ev I.ak z
  ·obtain⟨m,m1,P,r1,V⟩:=h;have d:=I.ev.step P;have B:=I.ak.step P;have o:=I.step.trans P.own;have M:=I.rest.trans r1
   induction c with
   |false=>exact JO ⟨.next,O,m,rfl,d,m1,o,M,B,V⟩
   |true=>
    refine YC (hb ⟨⟨R.sr,d,m1,B⟩,R.tf⟩ V) (λf s3 hf=> ?_) λe s3 z=>J o M z;obtain⟨fl,i,D,L,Y,H,a,r3,F,q⟩:=hf
    induction fl with
    |next=>
     simp only[FR] at L;subst L;exact⟨j,QW j,i,D,H,Y,o.trans a,M.trans r3,F,q⟩
    |ret p=>
     obtain⟨v,rfl,hv⟩:=L;exact⟨.ret p,i,D,⟨v,rfl,hv⟩,Y,H,o.trans a,M.trans r3,F,q⟩
end
end
section
open PySem.W PyProof.Rows
structure Caught(C:Cx)(G:Gx)(n:Nat)(A:Jj)(l:List Js)(env:Js)(σ:PH)(s:Je)(px:PX)(ρ1:Rho)(σ1:PH)(s1:Je)(a:Jg)(oe:Jp)(vs:Array Jf)(T:Jg)(oT:Jp)(ts:Array Jf)(k:Jg):Prop where
 at_:s1.heap.get? a=Ja oe
 dat:oe.data= .fields vs
 tb:vs[1]? =Ja (.ref T)
 hT:s1.heap.get? T=Ja oT
 dT:oT.data= .fields ts
 nT:ts[3]? =Ja Value.none
 cls:C.cls px.c=Ja k
 ocl:oe.cls= .ref k
 ctx:vs[2]? =Ja .none
 odi:FF C px σ1 s.heap s1.heap oe.dict
 fr0:∀en∈l,∀L,en.frame=Ja L->∃o,s.heap.get? L=Ja o
 tf:TopF env l
 base:C.B.get? a=Jb
 new:σ1 a=Jb
 new0:s.heap.get? a=Jb
 nw:σ a=Jb
 m:Sim C σ1 s1.heap
 ev:EnvR C env ρ1 σ1 s1.heap
 ak:AOK C n A l σ1 s1.heap
 st:Step (ownE env) σ s.heap σ1 s1.heap
 rest:Rest s s1
section
variable{C:Cx}{G:Gx}{mg mb:Jq->Option Jf}{n:Nat}{A:Jj}{l:List Js}{env:Js}{σ:PH}{s:Je}{px:PX}{ρ1:Rho}{σ1:PH}{s1:Je}{a:Jg}{oe:Jp}{vs:Array Jf}{T:Jg}{oT:Jp}{ts:Array Jf}{k:Jg}
structure Landed(C:Cx)(n:Nat)(A:Jj)(l:List Js)(env:Js)(σ:PH)(s:Je)(ρ1:Rho)(σ2:PH)(h2:Ji):Prop where
 m:Sim C σ2 h2
 ev:EnvR C env ρ1 σ2 h2
 st:Step (ownE env) σ s.heap σ2 h2
 ak:AOK C n A l σ2 h2
theorem FF.inst{h₀ h:Ji}{oe:Jp}(f:FF C x σ h₀ h oe.dict)(g:h.get? a=Ja oe)(v:oe.data= .fields vs)(c:oe.cls= .ref k):∃D,InstAt h a oe k D:=by
 induction f with
 |no _ e=>exact⟨Jb,g,c,by simp[notCls,v],by rw[e];trivial⟩
 |at_ _ d o e _ _ _ t _=>exact⟨Ja o,g,c,by simp[notCls,v],by rw[e];exact t⟩
theorem Caught.land(c:Caught C G n A l env σ s px ρ1 σ1 s1 a oe vs T oT ts k)(N:C.ok):∃O,(∃od,O a=Ja (.exc px.c od))/\(∀Q:Post,mV px σ1 Q->Q (.ref a) O)/\
  ∀h,(∀b o,s1.heap.get? b=Ja o->h.get? b=Ja o)->Landed C n A l env σ s ρ1 O h:=by
 have B:∀D,s.heap.get? D=Jb->(∀X∈l,∀L,X.frame=Ja L->L≠D):=λD U X he L j q=>by
  obtain⟨o,e⟩:=c.fr0 X he L j;rw[q,U] at e;exact ns e
 have J:∀D,s.heap.get? D=Jb->env.locals≠D:=λD U=>by
  obtain⟨l',e,j⟩:=c.tf;exact B D U env (e▸ .head _) _ j
 have I:∀D o,s1.heap.get? D=Ja o->(∀v,o.data≠ .cell v)->∀y e,env.cells.lookup y=Ja e->e≠D:=λD o U hn y e q w=>by
  obtain⟨o0,v,o',g,V⟩:=c.ev.newC y e q;rw[w,U] at g;obtain rfl:=sj g;exact hn v V
 have P:=I a oe c.at_ λv q=>by rw[c.dat] at q;cases q
 have ho:=c.odi
 induction ho with
 |no f R=>
  refine⟨σ1.set a<|.exc px.c Jb,⟨_,PH.set_same _ _ _⟩,λQ w=> ?_,λh kp=> ?_⟩
  ·have:=w a c.new;rw[f] at this;exact this
  ·have Y:Sim C σ1 h:=c.m.more kp;have sk:Step none1 σ1 s1.heap σ1 h:= .more kp;have nt:∀ws k,h.get? a≠Ja (tupO ws k):=λws k z=>by obtain rfl:=sj<|(kp a _ c.at_).symm.trans z;cases c.dat
   exact⟨Y.adopt c.new nt (kp a _ c.at_) c.base ⟨k,vs,c.cls,c.ocl,c.dat,c.ctx,R,λx q=>(ns q)⟩ N,(c.ev.step sk).adopt nt (J a c.new0) P,(c.st.trans sk.own).add _ c.new0 c.nw,(c.ak.step sk).adopt c.new (B a c.new0)⟩
 |at_ f d od R b E z W r=>
  obtain⟨es,ep,m,M,r3,S⟩:=r;have F:d≠a:=λq=>by rw[q,c.at_] at W;obtain rfl:=sj W;rw[c.dat] at m;cases m
  have H:σ d=Jb:=by
   induction q:σ d with
   |none=>rfl
   |some o=>obtain⟨o',w⟩:=c.st.grow d o q;exact ns<|E.symm.trans w
  refine⟨(σ1.set d<|.fd px.c px.fs).set a (.exc px.c<|Ja d),⟨_,PH.set_same _ _ _⟩,λQ w=> ?_,λh kp=> ?_⟩
  ·have:=w a c.new
   revert this f
   induction px.fs using List.casesOn with
   |nil=>intro f;exact absurd rfl f
   |cons p ps=>intro _ this;exact this d E F
  ·have Y:Sim C σ1 h:=c.m.more kp;have sk:Step none1 σ1 s1.heap σ1 h:= .more kp;have t:∀ws k,h.get? d≠Ja (tupO ws k):=λws k z=>by obtain rfl:=sj<|(kp d _ W).symm.trans z;cases m
   have nt:∀ws k,h.get? a≠Ja (tupO ws k):=λws k z=>by obtain rfl:=sj<|(kp a _ c.at_).symm.trans z;cases c.dat
   have m4:Sim C (σ1.set d<|.fd px.c px.fs) h:=Y.adopt E t (kp d _ W) b ⟨es,ep,m,M,λi f p h1 h=>by obtain⟨u,a,b⟩:=r3 i f p h1 h;exact⟨u,a,VR.step sk _ _ b⟩,S⟩;have K:(σ1.set d<|.fd px.c px.fs) a=Jb:=by rw[PH.set_ne _ _ (Ne.symm F)];exact c.new
   have Z:=(c.ev.step sk).adopt (po:= .fd px.c px.fs) t (J d z) (I d od W λv q=>by rw[m] at q;cases q);exact⟨m4.adopt K nt (kp a _ c.at_) c.base ⟨k,vs,c.cls,c.ocl,c.dat,c.ctx,R,λx q=>by obtain rfl:=sj q;exact⟨_,PH.set_same _ _ _⟩⟩ N,Z.adopt nt (J a c.new0) P,((c.st.trans sk.own).add _ z H).add _ c.new0 c.nw,((c.ak.step sk).adopt E (B d z)).adopt K (B a c.new0)⟩
theorem xl(g:GOK C G mg mb)(X:ExcOK C G mg mb)(E:C.ok)(hh:StsK C.un G.un n sc h (b::hr))(ev:EnvR C env ρ σ s.heap)(r:ScR sc env)(tf:TopF env l)
  (W:Caught C G n A l env σ s px ρ1 σ1 s1 a oe vs T oT ts k)(w3:G.cs.contains c=Jc)(Y:glb sc c t=Jc)(h3:jV sc x m=Jc)
  (w:G.sub px.c c=Jc->mV px σ1 λv O=>wss G.un (aO C.un n) (aO C.un n) h (ρ1.bindX x v) O (λfl D O=>Q fl (D.unX x) O) λo0 o0 o0=>False)
  (wn:G.sub px.c c=Jd->Jh (Mo C) A (handleBy (.ref a) env rest) (SP C n A l env σ s Q) (SX C n A l env σ s X') s1):
  Jh (Mo C) A (handleBy (.ref a) env (.ExceptHandler (Ja t) m (b::hr) p::rest)) (SP C n A l env σ s Q) (SX C n A l env σ s X') s1:=by
 obtain⟨pt,rfl,h5,h6⟩:=iG Y;obtain⟨aj,I⟩:=W.odi.inst W.at_ W.dat W.ocl;obtain⟨O,⟨ak,af⟩,K,land⟩:=W.land E;have i:=X.exm W.cls<|.inl w3;refine wpAny_handleBy_cons (codeAny_handlers_test<|kX g X W.ev W.m (.inl w3) (r.glob _ h5) h6 ((exm_one (M:=Mo C) (X.kin.keeps W.m.base) I.type i).here ?_))<|by intro q;cases q
 induction u:G.sub px.c c with
 |false=>exact wn u
 |true=>
  have R:wss G.un (aO C.un n) (aO C.un n) h (ρ1.bindX x<|.ref a) O (λfl D O=>Q fl (D.unX x) O) (λo0 o0 o0=>False):=K _<|w u;have d:HdR (A.mark<|Ja (.ref a)) O:= .inr ⟨a,_,_,rfl,af⟩
  rcases pR h3 with⟨rfl,rfl⟩|⟨rfl,N,ai⟩
  ·refine codeAny_handlers_suite (mo (C:=C) W.at_ W.dat W.tb W.hT W.dT W.nT λY kp=> ?_);have L:=land Y kp;refine YC (hh (s:={s1 with heap:=Y}) (A:=A.mark<|Ja (.ref a)) ⟨⟨r,L.ev.un,L.m.un,L.ak.un d⟩,tf⟩ R) (λf s4 hf=> ?_) λo0 o0 z=>SX.none z;obtain⟨ab,ae,ac,f4,e,m4,V,r4,P,q⟩:=hf;exact⟨ab,ae,ac,yb f4,e.re,m4.re,L.st.trans V,W.rest.trans r4,P.re L.ak<|L.ak.hd.step V,q⟩
  ·refine codeAny_handlers_suite_as (mo (C:=C) W.at_ W.dat W.tb W.hT W.dT W.nT λY kp=> ?_);have L:=land Y kp;have o:=r.loc _ ai;refine lI (C:=C) (s:={s1 with heap:=Y}) (p:= .ref a) L.ev L.m (.inl o) rfl λs3 U e r3=> ?_;have V:=U.step ev L.st;have P:=L.ak.asg U;have F:ρ1.bindX x (.ref a)=ρ1.put x (.ref a):=Ug N;rw[F] at R;refine YC (hh (A:=A.mark<|Ja (.ref a)) ⟨⟨r,e.un,U.sim.un,P.un d⟩,tf⟩ R) (λf s5 hf=> ?_) λo0 o0 z=>SX.none z;obtain⟨j,B,ah,f5,aa,m5,H,r5,Z,q⟩:=hf;have J:=Z.re P<|P.hd.step H;refine sE (C:=C) aa.re m5.re o λs6 y ad r6=> ?_;have hu:B.unX x=B.wipe:=Ug N;rw[hu] at q;exact⟨j,B.wipe,ah,(yb f5).mv y.mv y.fok,ad,y.sim,y.step ev<|V.trans H,((W.rest.trans r3).trans r5).trans r6,J.asg y,q⟩
theorem wH{E:List YI}(hb:StsK C G n sc b y)(I:AtS C n sc env g A l σ s)
  (w:wss G (aO C n) (aO C.un n) b g σ Q W)
  (d:∀px ρ1 σ1 s1 a oe vs T oT ts k,Caught C G n A l env σ s px ρ1 σ1 s1 a oe vs T oT ts k->W px ρ1 σ1->Jh (Mo C) A (handleBy (.ref a) env (i::E)) (SP C n A l env σ s Q) (SX C n A l env σ s X) s1):
  Jh (Mo C) A (exec (.Try y (i::E) [] [] pos) env) (SP C n A l env σ s Q) (SX C n A l env σ s X) s:=by
 refine wpAny_Try_except ?_;refine YC (hb I w) (λf s1 j=> ?_) λe s1 hx=> ?_
 ·obtain⟨fl,ρ1,σ1,H,m,c,t,M,B,q⟩:=j
  induction fl with
  |next=>
   simp only[FR] at H;subst H;exact JO ⟨.next,ρ1,σ1,rfl,m,c,t,M,B,q⟩
  |ret v=>
   obtain⟨v',rfl,hv⟩:=H;exact⟨.ret v,ρ1,σ1,⟨v',rfl,hv⟩,m,c,t,M,B,q⟩
 ·obtain⟨px,ρ1,σ1,fl,m,c,t,M,B,w⟩:=hx;obtain⟨l',rfl,r⟩:=id I.tf;refine jM (K:=JW e Jb) B.stack B.frs r c fl (λL' q=>by obtain rfl:=sj<|r.symm.trans q;rfl) t (λo0 o0 o0 o0 o0 o0 o0 o0 o0 z=>z) λh' m2 Z V O P=> ?_;obtain⟨F,stF,J⟩:=O;obtain⟨a,oe,vs,T,oT,ts,rfl,p,R,e3,e4,e5,x,e7⟩:=P;obtain⟨a',o,ab,k,u,q2,q3,N,q5,q6,D,U,q9,aa,Y⟩:=Z;cases u;obtain rfl:=sj<|p.symm.trans q5;rw[R] at U;cases U;have h:σ a=Jb:=by
   induction z:σ a with
   |none=>rfl
   |some o'=>obtain⟨ob,z1,o0⟩:=I.m.objs a o' z;exact ns<|N.symm.trans z1
  exact d px ρ1 σ1 {s1 with heap:=h'} a oe vs T oT ts k ⟨p,R,e3,e5,x,e7,q6,D,q9,Y,λen he L j=>(by obtain⟨o0,L',o,o0,o0,z1,o0,o0,z4,o0⟩:=I.ak.frs en he;exact⟨o,by obtain rfl:=sj<|j.symm.trans z1;exact z4⟩),I.tf,q2,q3,N,h,m2,m.stepF stF J,B.stepF stF J,V,M⟩ w
end
section
variable{C:Cx}{G:Gx}{mg mb:Jq->Option Jf}{n:Nat}
theorem sQ(g:GOK C G mg mb)(X:ExcOK C G mg mb)(o:C.ok){nm:Option Jq}(Y:glb sc c t=Jc)(J:jV sc x nm=Jc)(R:StsK C G n sc b y)(f:StsK C.un G.un n sc h (U::r)):StK C G n sc (.try1 b c x h) (.Try y [.ExceptHandler (Ja t) nm (U::r) p] [] [] q):=λI w=>by
 refine wH R I w.2 λpx ρ1 σ1 s1 a oe vs T oT ts k v m=> ?_;refine xl g X o f I.ev I.sr I.tf v w.1.2.2 Y J (λE=>by rw[Uh E] at m;exact m) λE=> ?_;rw[Ug (by rw[E];exact QC)] at m;exact m.elim
theorem todoE(g:GOK C G mg mb)(X:ExcOK C G mg mb):Todo C G n:=⟨λo0=>tR g X,r8 X,qy g X⟩
theorem tA(g:GOK C G mg mb)(X:ExcOK C G mg mb):Todo2 C G n:=⟨vK,λo0 h=>qA g X h,λo h=>sQ g X o⟩
end
end
section
open PySem.W PyProof.Rows
theorem tJ{P:Jo->Prop}(h:mAsg sc f e x=Jc)(k:∀I r g v,isLoc sc (Qb "self")=Jc->bB (Qb "self")=Jc->kz v=Jc->mE sc e v=Jc->P (.Assign [.Attribute (.Name (Qb "self") I) (Qb f) r] v g)):P x:=
 pJ h λt v o J w=>xW (P:=λt=>P<|.Assign [t] v o) J λz p B o0 o0=>i5 (P:=λz=>P<|.Assign [.Attribute z (Qb f) p] v o) B λq W S=>k q p o v W S (and2 w).1 (and2 w).2
structure Half(h:Ji)(x dx k:Jg)(mA:Jq->Option Jf):Prop where
 obj:∃o,A4 (h.get? x=Ja o) (o.cls= .ref k) (o.dict=Ja dx) (∀c,o.data≠ .cls c)
 ne:dx≠x
 ns:h.Ns1 dx mA
section
variable{C:Cx}{G:Gx}{mg mb:Jq->Option Jf}{n:Nat}{x dx k:Jg}{mA:Jq->Option Jf}{h h':Ji}{σ σ':PH}
theorem Half.inst(a:Half h x dx k mA):h.Inst x k mA:=by obtain⟨o,T,e,X,u⟩:=a.obj;exact⟨o,T,e,u,.inr ⟨dx,X,a.ne,a.ns⟩⟩
theorem Half.step(a:Half h x dx k mA)(st:Step none1 σ h σ' h')(i:σ x=Jb)(nd:σ dx=Jb):Half h' x dx k mA/\σ' x=Jb/\σ' dx=Jb:=by
 obtain⟨o,v,q,Q,t⟩:=a.obj;obtain⟨s,F,e,N⟩:=st.keep x _ v i;obtain⟨p,K,P,o0⟩:=N λf=>f.elim;obtain⟨S,U,H,T,w,X⟩:=a.ns;obtain⟨V,d,u,l⟩:=st.keep dx _ T nd;exact⟨⟨⟨F,e,p.trans q,K.trans Q,λc z=>t c<|P.symm.trans z⟩,a.ne,d,U,H,u,(l λf=>f.elim).2.2.1.trans w,X⟩,s,V⟩
theorem Half.noTup(a:Half h x dx k mA):∀vs n,h.get? dx≠Ja (tupO vs n):=λvs n q=>by
 obtain⟨o,s,p,T,e,o0⟩:=a.ns;obtain rfl:=sj<|T.symm.trans q;cases e
inductive NewAt(B:Ji)(k fI:Jg)(fl:List String):Prop
 |mk (nm q:Jq) (N:Jg) (bs:List Jf) (sn:List Jq) (sub:List Jf) (col:Option Bool) (dd:Option Jg) (k0 k1 k2 k3 k5:Option Jf) (mN:Jq->Option Jf) (hC:B.get? k=Ja (JG nm q k N bs [.type "object"] Jc sn sub Jd col dd k0 k1 k2 k3 k5 "object.__new__")) (hN:B.Ns N mN)
  (hi:mN "__init__"=Ja (.ref fI)) (hs:mN "__setattr__"=Option.none) (hf:∀f∈fl,mN (Qb f)=Option.none/\J6 (.type "object") (Qb f)=pure Option.none):NewAt B k fI fl
theorem NewAt.keeps{B e:Ji}{fl:List String}(N:NewAt B k f fl)(kp:∀b o,B.get? b=Ja o->e.get? b=Ja o):NewAt e k f fl:=by
 obtain⟨nm,q,a,bs,sn,sub,c,d,S,P,U,F,O,m,M,W,i,s,w⟩:=N;exact⟨nm,q,a,bs,sn,sub,c,d,S,P,U,F,O,m,kp _ _ M,W.keeps kp,i,s,w⟩
theorem NewAt.kp{fl:List String}(N:NewAt C.B k f fl):Kp C (.ref k):=by
 obtain⟨nm,q,a,bs,sn,sub,c,d,S,P,U,F,O,m,M,o0⟩:=N;exact⟨.machine,.inr<|.inl rfl,λA Q E s kp q=>wpAny_keeperOf_exc (kp _ _ M) q⟩
structure Ini(C:Cx)(n:Nat)(A:Jj)(l:List Js)(env:Js)(ρ:Rho)(x dx k:Jg)(σ₀:PH)(s₀:Je)(mA:Jq->Option Jf)(ns:List Jq)(σ:PH)(s:Je):Prop where
 ev:EnvR C env ρ σ s.heap
 m:Sim C σ s.heap
 ak:AOK C n A l σ s.heap
 st:Step none1 σ₀ s₀.heap σ s.heap
 r:Rest s₀ s
 hf:Half s.heap x dx k mA
 nx:σ x=Jb
 nd:σ dx=Jb
 wi:Within mA ns
theorem oN{env:Js}{S:Rho}{s₀ s:Je}{ns:List Jq}{fl:List String}{P:PV->PH->Prop}{R:Flow->Je->Prop}{Er:Jf->Je->Prop}
  (hE:WB C G n e)(hm:mAsg sc f e y=Jc)(sr:ScR sc env)(I:Ini C n A l env S x dx k B s₀ mA ns σ s)(U:S.get "self"=Ja (.ref x))(N:NewAt C.B k fI fl)(i:f∈fl)(hz:ns.length<=100)(bd:C.B.get? dx=Jb)(bx:C.B.get? x=Jb)
  (d0:s₀.heap.get? dx=Jb)(fL:env.locals≠dx)(fc:∀y c,env.cells.lookup y=Ja c->c≠dx)(ff:∀X∈l,∀L,X.frame=Ja L->L≠dx)(w:we G (aO C n) e S σ P λo0 o0=>False)
  (kk:∀p v σ1 W,P p σ1->VR C σ1 W.heap p v->(∀q u,VR C σ s.heap q u->VR C σ1 W.heap q u)->Ini C n A l env S x dx k B s₀ (λz=>if z=Qb f then Ja v else mA z) (Qb f::ns) σ1 W->R .next W):Jh (Mo C) A (exec y env) R Er s:=by
 refine tJ (P:=λy=>Jh (Mo C) A (exec y env) R Er s) hm λp1 p2 p4 v h1 h2 M h3=> ?_;obtain⟨nm,q,Na,bs,sn,sub,af,dd,k0,k1,k2,k3,k5,mN,hC,hN,hi,hs,hf⟩:=N;refine Y6 ?_<|iq M rfl;refine YC ((hE sc v h3).1 ⟨sr,I.ev,I.m,I.ak⟩ w) (λv W hv=> ?_) λo0 o0 z=>XP.none z;obtain⟨p,σ1,K,a,H,r1,w1⟩:=hv;have m:=I.ev.step H;obtain⟨T,D,j⟩:=I.hf.step H I.nx I.nd;refine k7 m (j4 sr h1) h2 U λu hu=> ?_;rw[show u= .ref x from hu];obtain⟨V,g,d,t,os⟩:=W;have Y:x≠k:=λz=>by rw[z,hC] at bx;exact Vl.Internal.sn bx
 refine store_attr F.store_object (a.base _ _ hC) (hN.keeps a.base) hs (hf f i).1 (hf f i).2 Y T.inst (λh' aa I' keep same=> ?_) I.wi (zle hz<|by rw[JZ];decide);obtain⟨ob,q1,q2,Q,q4⟩:=T.obj;obtain⟨b,O,o2,o3,o4,o5⟩:=same _ q1;obtain rfl:b=ob:=by
  have o6:=(o5 dx Q).trans Q.symm;obtain⟨c1,d1,ae,ad⟩:=b;obtain⟨c2,d2,ah,ai⟩:=ob;simp only at o2 o3 o4 o6;subst o2 o3 o4 o6;rfl
 have J:h'.get? x=V.get? x:=O.trans q1.symm;have mv:Mv (· ∈ [dx]) V h':=λc o f e=>by
  by_cases z:c=x
  ·rw[z] at e ⊢;exact J.trans e
  ·exact keep c o z (λab ac e0 e1 q=>by obtain rfl:=sj<|q1.symm.trans e0;obtain rfl:=sj<|Q.symm.trans e1;exact f<|Qk.mpr q) e
 have Z:Fok C σ1 V (· ∈ [dx]):=λc f=>by have f:=Qk.mp f;subst f;exact⟨bd,.inl ⟨j,T.noTup⟩⟩
 have ne:∀ {c:Jg},c≠dx->¬c∈ [dx]:=λz q=>z<|Qk.mp q;refine kk p v σ1 ⟨h',g,d,aa,os⟩ w1 (K.mv mv Z) (λq u r=>(r.step H).mv mv Z) ⟨m.mv mv Z (ne fL) λy c q=>ne<|fc y c q,a.mv mv Z<|hU j,(I.ak.step H).mv mv λX he L q=>ne<|ff X he L q,(I.st.trans H).mv mv λc f=>by rw[Qk.mp f];exact d0,I.r.trans ⟨r1.1,r1.2⟩,⟨⟨b,O,q2,Q,q4⟩,T.ne,?_⟩,D,j,Within.cons _ v I.wi⟩;obtain⟨o,e1,e2,e3,e4⟩:=I';obtain rfl:=sj<|O.symm.trans e1
 rcases e4 with⟨q,o0⟩|⟨d',q,o0,e5⟩
 ·exact Vl.Internal.sn<|Q.symm.trans q
 ·obtain rfl:=sj<|Q.symm.trans q;exact e5
theorem AOK.call{A:Jj}(a:AOK C (n+2) A l σ h)(st:Step none1 σ h σ' h'):AOK C (n+1) (A.under (.builtin "type.__call__" ⟨.ref k::vs,[]⟩)) l σ' h':=by
 have a:=a.step st;refine⟨?_,?_,a.stack,a.frs,a.calm,a.hd⟩
 ·show A.depth+(0+1+0+0)+(n+1)+2<_;exact Ko (Kk (QS<|by rw[QP,Nat.add_assoc A.depth (n+1)]) 2) a.depth
 ·have:=a.units;show A.units+_+30*(n+1)+300<_;refine Ko (Kk ?_ 300) this;rw[QP];exact KJ (show _<=30 from WJ rfl)<|A.units+30*(n+1)
theorem yJ(g:GOK C G mg mb){oI:Jp}{fd:Jr}{v S J:String}(u:C.icl=Ja k)(an:C.fv "Bounds"=Ja (.ref k))(kp:Kp C (.ref k))(N:NewAt C.B k fI [v,S])(F:FnIn C.B ["self",J] fI oI fd [y1,y2])(ap:oI.cls= .type "function")(aw:mAsg fd.scope v e1 y1=Jc)(ac:mAsg fd.scope S e2 y2=Jc)
  (W:C.flds "Bounds"=[v,S])(ae:v≠S)(ar:WB C G n e1)(av:WB C G n e2)(B:List String)
  (w:∀x,σ x=Jb->we G (aO C n) e1 (rho0 ["self",J] B [.ref x,p]) σ (λr σ1=>we G (aO C n) e2 (rho0 ["self",J] B [.ref x,p]) σ1 (λM O=>∀d a,O d=Jb->O a=Jb->d≠a->Q (.ref a) ((O.set d<|.fd "Bounds" [r,M]).set a (.inst d))) λo0 o0=>False) λo0 o0=>False):aO C (n+2) "Bounds" [p] σ Q X:=by
 refine⟨.ref k,an,kp,λA l s vs ak m hv=> ?_⟩;obtain⟨nm,q,Na,bs,sn,sub,ay,dd,k0,k1,k2,k3,k5,mN,hC,hN,hi,hs,hf⟩:=id N;obtain⟨hp,gg,dr,tk,os⟩:=s;refine wpAny_call_obj_init PySem.F.objNew (m.base _ _ hC) (hN.keeps m.base) hi (m.base _ _ F.ho) ap λh' x dx D=>YM ?_;have bx:C.B.get? x=Jb:=(dp m D.newX).1;have bd:C.B.get? dx=Jb:=(dp m D.newD).1;have t:Step none1 σ hp σ h':= .more D.keeps;have m0:Sim C σ h':=m.more D.keeps;obtain⟨o,ox,oc,al,od⟩:=D.inst;have af:AOK C (n+1) (A.under<|.builtin "type.__call__" ⟨.ref k::vs,[]⟩) l σ h':=ak.call t;refine oy g F B rfl (s:=⟨h',gg,dr,tk,os⟩) (vs:= .ref x::vs) (args:=[.ref x,p]) af m0 ⟨.ref x,vs,rfl,rfl,hv.step t⟩ λe Z sr ev m1 P r1 aa ax H b back=> ?_;have K:=D.dict o ox;obtain⟨ai,V⟩:dx≠x/\h'.Ns1 dx λo0=>Jb:=by
  rcases od with⟨q,o0⟩|⟨d',q,z1,z2⟩
  ·exact Vl.Internal.sn<|K.symm.trans q
  ·obtain rfl:=sj<|K.symm.trans q;exact⟨z1,z2⟩
 have nx:σ x=Jb:=(dp m D.newX).2;have nd:σ dx=Jb:=(dp m D.newD).2;obtain⟨aq,am,ab⟩:=(Half.mk (k:=k) ⟨o,ox,oc,K,al⟩ ai V).step P nx nd;have R:dx<h'.objs.size:=by obtain⟨o0,o0,o0,z,o0⟩:=V;exact QH z
 have fL:e.locals≠dx:=by rw[H];exact KL R
 have fc:∀y c,e.cells.lookup y=Ja c->c≠dx:=λy c q=>KL<|QX R (b y c q);have ff:∀en∈e::l,∀L,en.frame=Ja L->L≠dx:=λen he L q=>by
  rcases Qx.mp he with rfl|he
  ·obtain rfl:=sj<|ax.symm.trans q;exact fL
  ·obtain⟨o0,L',o',es,ep,z1,z2,z3,z4,z5⟩:=ak.frs en he;obtain rfl:=sj<|z1.symm.trans q;exact λz=>by rw[z,D.newD] at z4;exact Vl.Internal.ns z4
 have U:(rho0 ["self",J] B [.ref x,p]).get "self"=Ja (.ref x):=Uh rfl;have I0:Ini C n ((A.under<|.builtin "type.__call__" ⟨.ref k::vs,[]⟩).deeper e) (e::l) e (rho0 ["self",J] B [.ref x,p]) x dx k σ ⟨hp,gg,dr,tk,os⟩ (λo0=>Jb) [] σ Z:=⟨ev,m1,aa,t.trans P,⟨r1.1,r1.2⟩,aq,am,ab,Within.nil⟩
 refine YJ (oN ar aw sr I0 U N (.head _) (QY _) bd bx D.newD fL fc ff (w x nx) λr v1 σ1 s1 w1 aj o0 I1=> ?_);refine YJ (oN av ac sr I1 U N (.tail _<|.head _) (WJ rfl) bd bx D.newD fL fc ff w1 λM v2 O s2 w2 au keep I=> ?_);refine JO ⟨rfl,?_⟩;obtain⟨ao,es,ep,g1,g2,g3,g4,g5⟩:=I.hf.ns;obtain⟨o2,b1,b2,b3,b4⟩:=I.hf.obj;have ad:FD C O s2.heap "Bounds" [r,M] ao:=by
  refine⟨es,ep,g2,g3,λi f p Y T=> ?_,λz hz=> ?_⟩
  ·rw[W] at Y
   match i,Y,T with
   |0,Y,T=>
    obtain rfl:=sj Y;obtain rfl:=sj T;exact⟨v1,(g5 _).trans ((Ug λz=>ae<|ofString_inj z).trans (Uh rfl)),keep _ _ aj⟩
   |1,Y,T=>
    obtain rfl:=sj Y;obtain rfl:=sj T;exact⟨v2,(g5 _).trans (Uh rfl),au⟩
   |_+2,Y,_=>exact Vl.Internal.ns Y
  ·rw[W] at hz;exact(g5 z).trans ((Ug<|hz S (.tail _<|.head _)).trans (Ug<|hz v (.head _)))
 have m3:=I.m.adopt (po:= .fd "Bounds" [r,M]) I.nd I.hf.noTup g1 bd ad;have ah:(O.set dx<|.fd "Bounds" [r,M]) x=Jb:=(PH.set_ne _ _<|Ne.symm I.hf.ne).trans I.nx;have m4:=m3.adopt (po:= .inst dx) ah (λws j z=>by obtain rfl:=sj<|b1.symm.trans z;cases b2) b1 bx ⟨k,u,b2,b4,b3,_,PH.set_same _ _ _⟩;exact⟨.ref x,_,rfl,m4,(I.st.add _ D.newD nd).add _ D.newX nx,I.r,w2 dx x I.nd I.nx I.hf.ne⟩
end
end
section
open PySem.W PyProof.Rows
theorem j2:∀ {as:List Jg},(ie h as).In h
 |[]=>λa o e=>by exact ns e
 |b::r=>λa o e=>by
  induction R:h.get? b with
  |none=>
   have:ie h (b::r)=ie h r:=by simp[ie,R]
   rw[this] at e;exact j2 (as:=r) a o e
  |some C=>
   have:ie h (b::r)=(b,C)::ie h r:=by simp[ie,R]
   rw[this,Yr] at e;by_cases q:a=b
   ·subst q;rw[beq_self_eq_true] at e;obtain rfl:=sj e;exact R
   ·rw[beq_eq_false_iff_ne.mpr q] at e;exact j2 (as:=r) a o e
theorem vT{K:Frag}{h:Ji}{m:Jq->Option Jf}(X:K.In h)(N:h.Ns a m)(e:nsIn K a x=Ja (Ja v)):m x=Ja v:=by
 obtain⟨o,s,p,w,W,o0,f⟩:=N;unfold nsIn at e
 induction l:K.lookup a with
 |none=>rw[l] at e;exact ns e
 |some b=>
  obtain⟨c,d,t,B⟩:=b;rw[l] at e;have:=X _ _ l;obtain rfl:=sj<|w.symm.trans this;cases W;dsimp only at e
  induction n:s.toList.find? (·.key.isStr x) with
  |some C=>
   rw[n] at e;cases e;rw[<-f];unfold nsFind findBy;rw[<-Array.find?_toList,n];rfl
  |none=>
   rw[n] at e;dsimp only at e;by_cases q:s.toList.any (·.refKey)=Jc
   ·exact ns<|(Uh q).symm.trans e
   ·rw[Ug q] at e;cases e
end
theorem pO{ns:List Jq}:∀ {vs:List Jf},vs.length=ns.length->ns.Nodup->∀n∈ns,((ns.zip vs).lookup n).isSome=Jc:=by
 induction ns with
 |nil=>intro vs _ _ n h;cases h
 |cons a r i=>
  intro vs l d n h
  induction vs using List.casesOn with
  |nil=>simp at l
  |cons v vs=>
   simp only[Wz];by_cases q:n=a
   ·subst q;rw[lookup_cons_self];rfl
   ·rw[bW q];exact i (by simpa using l) (Qz.mp d).2 n ((Qx.mp h).resolve_left q)
theorem lQ{ns:List Jq}:∀ {vs:List Jf},vs.length=ns.length->ns.Nodup->ns.filterMap (λn=>((ns.zip vs).lookup n).map (n,·))=ns.zip vs:=by
 induction ns with
 |nil=>intro vs _ _;rfl
 |cons a r W=>
  intro vs T d
  induction vs using List.casesOn with
  |nil=>simp at T
  |cons v vs=>
   simp only[Wz,List.filterMap_cons,lookup_cons_self,Wc]
   congr 1
   have key:∀l:List Jq,a∉l->l.filterMap (λn=>(Yx n ((a,v)::r.zip vs)).map (n,·))=l.filterMap (λn=>((r.zip vs).lookup n).map (n,·)):=by
    intro l
    induction l with
    |nil=>intro _;rfl
    |cons b q i=>
     intro h;simp only[Qx,not_or] at h;simp only[List.filterMap_cons,bW (λe=>h.1 e.symm:b≠a),i h.2]
   rw[key r (Qz.mp d).1];exact W (by simpa using T) (Qz.mp d).2
theorem rJ{L:Type}{a b:Sem L}(h:c=Jd):(if c=Jc then a else b)=b:=by rw[h];rfl
theorem iZ{f:Jr}{as:List Arg}{z:List (Option Jl)}{ds:List Jl}{v:List Jf}(N:f.params={posonlyargs:=[],args:=as,vararg:=Jb,kwonlyargs:=[],kw_defaults:=z,kwarg:=Jb,defaults:=ds})
  (q:f.defaults= .none) (nd:(as.map (·.arg)).Nodup) (l:v.length=as.length):Y5 f ⟨v,[]⟩=pure ((as.map (·.arg)).zip v):=by
 have h:v.length=(as.map (·.arg)).length:=by simpa using l
 have T:((as.map (·.arg)).filter λn=>(((as.map (·.arg)).zip v).lookup n).isNone)=[]:=by
  rw[Ym];intro n o;have:=pO h nd n o;simp[Option.isSome_iff_ne_none.mp this]
 have e:=lQ h nd;have d:∀k,Yz k ([]:List Jf)=[]:=λk=>List.drop_nil;obtain⟨o0,o0,o0,o0,o0,o0,o0,o0,o0,o0,o0,o0,o0,o0,o0⟩:=f;cases N;cases q;unfold Y5;dsimp only[Wm,KN];refine(rJ (c:=decide (v.length>(as.map (·.arg)).length)&&Jc)<|by rw[h,Ue (KG _)];rfl).trans ?_;refine(rJ (c:= !(Wd (λn=>(((as.map (·.arg)).zip v).lookup n).isNone) (List.take ((as.map (·.arg)).length-(Yz (0-(as.map (·.arg)).length) ([]:List Jf)).length) (as.map (·.arg)))).isEmpty)<|by rw[d,WD,Nat.sub_zero,KR,T];rfl).trans ?_;dsimp only[Option.getD_none];rw[d,List.zip_nil_right];show(pure (List.filterMap (λn=>Wt (λx=>(n,x)) (Yx n ((as.map (·.arg)).zip v))) (as.map (·.arg)++[])):Sem (List<|Str×Jf))=_;rw[QO];exact Uk pure e
section
open PySem.W PyProof.Rows
theorem i7{ps:List String}(h:mR ps a=Jc):X3 λas k ds=>a={posonlyargs:=[],args:=as,vararg:=Jb,kwonlyargs:=[],kw_defaults:=k,kwarg:=Jb,defaults:=ds}/\as.map (·.arg)=ps.map Qb:=by
 obtain⟨p,as,v,o,k,w,ds⟩:=a
 induction p using List.casesOn with
 |cons=>exact bnx h
 |nil=>induction v with
  |some=>exact bnx h
  |none=>induction o with
   |cons=>exact bnx h
   |nil=>induction w with
    |some=>exact bnx h
    |none=>exact⟨as,k,ds,rfl,Ui h⟩
theorem cD{L:Type}{o:Option L}{p:L->Bool}(h:o.any p=Jc):∃x,o=Ja x/\p x=Jc:=by
 induction o with
 |none=>exact ft h
 |some x=>exact⟨x,rfl,h⟩
theorem kL(h:refOf o=Ja a):o=Ja (.ref a):=by
 induction o with
 |none=>exact ns h
 |some v=>induction v using Value.casesOn with
  |ref b=>obtain rfl:=sj h;rfl
  |_=>exact ns h
theorem ni{d:Data}(h:clsOf d=Ja c):d= .cls c:=by
 induction d with
 |cls b=>obtain rfl:=sj h;rfl
 |_=>exact ns h
theorem xq:nI h b=Jc->J8 h bmE b:=by
 induction b with
 |nil=>exact λe=>ft e
 |cons v t i=>
  intro e
  rcases Bool.or_eq_true_iff.mp e with e|e
  ·rw[Ui e];exact .base
  ·obtain⟨A,r,e⟩:=cD e;obtain⟨⟨W,U,d,s⟩,o,e⟩:=cD e;obtain⟨I,c,e⟩:=cD e;obtain⟨T,w,X⟩:=and3 e;rw[sj (kL r)];have c:d= .cls I:=ni c;subst c;exact .own o (.of_isNs T) (Ke.mp w)<|i X
theorem sI(h:qL l=Jc):X5 λS P k F O=>l=[S,P,k,F,Ja (.builtin "ValueError.__new__"),O]:=⟨_,_,_,_,_,Ui h⟩
theorem xQ(e:mroOK h k l=Jc):∃b,l= .ref k::b/\nI h b=Jc:=by
 induction l using List.casesOn with
 |nil=>exact ft e
 |cons v b=>
  obtain⟨c,Z⟩:=Qh.mp e;exact⟨b,by rw[Ui c],Z⟩
theorem pG{d:Data}(h:pQ d=Ja f):d= .func f:=by
 induction d with
 |func T=>obtain rfl:=sj h;rfl
 |_=>exact ns h
theorem pg{d:FuncBody}(h:qa d=Ja b):d= .stmts b:=by
 induction d with
 |stmts c=>obtain rfl:=sj h;rfl
 |_=>exact ns h
theorem uq{o:Jp}{c:ClassData}{S P U F O:Option Jf}(N:o.cls= .type "type")(p:o.data= .cls c)(J:c.mro= .ref k::b)(w:c.hasDict=Jc)(B:c.hasDel=Jd)(W:o.slots.toList=[S,P,U,F,Ja (.builtin n),O]):
  o=JG c.name c.qualname k c.ns c.bases b Jc c.slotNames c.subclasses c.abstract c.collection o.dict S P U F O n:=by
 obtain⟨M,f,t,⟨s⟩⟩:=o;obtain⟨nm,bs,m,ns,q,h,sn,sub,a,l,d⟩:=c;cases N;cases p;cases J;cases w;cases B;cases W;rfl
inductive FnSeen(h:Ji)(names:List String)(oI:Jp):Prop
 |mk (fd:Jr) (body:List Jo) (hfc:oI.cls= .type "function") (hd:oI.data= .func fd) (cd:h.CodeRec fd.code fd.qualname) (hb:fd.body= .stmts body) (clo:fd.closure=[]) (bind:∀vals:List Jf,vals.length=names.length+1->Y5 fd ⟨vals,[]⟩=pure ((("self"::names).map Qb).zip vals))
  (par:∀x∈"self"::names,fd.scope.names.lookup (Qb x)=Ja .local/\(Qb x==("__debug__":Jq))=Jd) (nd:("self"::names).Nodup) (co:fd.scope.isCoroutine=Jd) (gen:fd.scope.isGenerator=Jd) (kind:fd.scope.kind= .function) (mat:mIni fd.scope names body=Jc):FnSeen h names oI
theorem w4{names:List String}(F:fnObj h names o=Jc):FnSeen h names o:=by
 obtain⟨m,z⟩:=Qh.mp F;obtain⟨d,f,s⟩:=cD z;obtain⟨b,R,V⟩:=cD s;obtain⟨a,L,H,D⟩:=and4 V;have K:=and3 a;have c:=and3 L;have O:=and3 H;obtain⟨as,k,E,N,q⟩:=i7 c.1;have nd:("self"::names).Nodup:=Uf c.2.2;refine⟨d,b,Ui m,pG f,.of_ok K.1,pg R,List.isEmpty_iff.mp K.2.1,λv T=> ?_,λx hx=> ?_,nd,(QQ _).mp O.1,(QQ _).mp O.2.1,Ui O.2.2,D⟩
 ·have l:v.length=as.length:=by
   have:=Uk Yy q;rw[Qd,Qd,Wi] at this;rw[this];exact T
  rw[<-q];exact iZ N (Ui K.2.2) (by rw[q];exact cL nd) l
 ·obtain⟨t,Z⟩:=Qh.mp<|Qy.mp c.2.1 x hx;exact⟨Ui t,(QQ _).mp Z⟩
theorem yG{h:Ji}{K:Frag}{k:Jg}{names:List String}(e:iniOK h K k names=Jc):IniAt h K k names:=by
 obtain⟨J,w,W,u⟩:=and4 e;obtain⟨o,Z,V⟩:=cD J;obtain⟨c,d,m⟩:=cD V;obtain⟨A,R,f⟩:=and3 m;have g:=and3 A;have X:=and3 R;obtain⟨D,j,i⟩:=cD f;obtain⟨N,I,a⟩:=cD i;obtain⟨r,b,Y,z,x,v,L,s,p,B,O,n,S,T⟩:=w4 a;obtain⟨M,Q,t⟩:=xQ g.2.2;obtain⟨H,P,U,F,G,E⟩:=sI g.2.1;have C:=Z.trans<|congrArg Ja (uq (Ui g.1) (ni d) Q X.1 ((QQ _).mp X.2.1) E);exact⟨M,c.ns,c.name,c.qualname,c.bases,c.slotNames,c.subclasses,c.abstract,c.collection,o.dict,H,P,U,F,G,h.nsMap c.ns,D,N,r,b,C,.of_isNs X.2.2,kL j,xq t,I,Y,z,x,v,L,s,p,B,O,n,S,T,Ui w,(λq=>by rw[q] at W;exact ft W),Uf u⟩
theorem IniAt.keeps{h A:Ji}{K:Frag}{k:Jg}{names:List String}(I:IniAt h K k names)(kp:∀b o,h.get? b=Ja o->A.get? b=Ja o):IniAt A K k names:=by
 obtain⟨M,N,nm,q,bs,sn,sub,a,D,x,H,P,U,F,r,Y,V,S,E,d,C,L,t,T,G,f,J,W,B,c,i,p,O,u,g,n,m,s,l⟩:=I;exact⟨M,N,nm,q,bs,sn,sub,a,D,x,H,P,U,F,r,Y,V,S,E,d,kp _ _ C,L.keeps kp,t,T.keeps kp,kp _ _ G,f,J,W.keeps kp,B,c,i,p,O,u,g,n,m,s,l⟩
end
section
open PySem.W PyProof.Rows
theorem zC{h:Ji}{o:Jp}{f:Jr}(w:h.get? a=Ja o)(d:o.data= .func f)(R:f.body= .stmts body)(e:fnB h ps f=Jc):FnIn h ps a o f body:=by
 obtain⟨F,L,H,D⟩:=and4 e;have b:=and3 F;have c:=and3 L;have O:=and3 H;have Q:=and3 D;obtain⟨as,k,s,N,q⟩:=i7 c.2.2;have nd:ps.Nodup:=Uf O.2.1;refine⟨w,d,.of_ok b.1,R,List.isEmpty_iff.mp b.2.1,Ui c.1,Ui c.2.1,λv T=> ?_,O.1,nd,(QQ _).mp Q.1,(QQ _).mp Q.2.1,Ui Q.2.2,O.2.2⟩;have l:v.length=as.length:=by
  have:=Uk Yy q;rw[Qd,Qd] at this;exact T.trans this.symm
 rw[<-q];exact iZ N (Ui b.2.2) (by rw[q];exact cL nd) l
inductive FnS(h:Ji)(ps:List String)(mt:Jk->List Jo->Bool)(a:Jg):Prop
 |mk (o:Jp) (fd:Jr) (body:List Jo) (F:FnIn h ps a o fd body) (c:o.cls= .type "function") (m:mt fd.scope body=Jc):FnS h ps mt a
theorem rG{m:Jk->List Jo->Bool}(e:p9 h ps m a=Jc):FnS h ps m a:=by
 obtain⟨o,d,T⟩:=cD e;obtain⟨w,X⟩:=Qh.mp T;obtain⟨S,f,u⟩:=cD X;obtain⟨b,R,V⟩:=cD u;obtain⟨q,N⟩:=Qh.mp V;exact⟨o,S,b,zC d (pG f) (pg R) q,Ui w,N⟩
theorem FnS.keeps{h A:Ji}{t:Jk->List Jo->Bool}(x:FnS h ps t a)(kp:∀b o,h.get? b=Ja o->A.get? b=Ja o):FnS A ps t a:=by obtain⟨o,f,b,F,c,m⟩:=x;exact⟨o,f,b,F.keeps kp,c,m⟩
inductive MethAt(h:Ji)(K:Frag)(c:Cls)(a:Jg)(t:Fn):Prop
 |mk (m:Jg) (p:bZ t.f=Jd) (n:mOf t.f∉ [c.f1,c.f2]) (e:findIn K (.ref a) (Qb (mOf t.f))=Ja (Ja (.ref m))) (ty:typeIn K (.ref m)=Ja (.type "function")) (F:FnS h t.ps (λsc b=>mSs sc t.b b) m):MethAt h K c a t
inductive ClsAt(h:Ji)(K:Frag)(c:Cls)(a:Jg):Prop
 |mk (fI:Jg) (N:NewAt h a fI [c.f1,c.f2]) (F:FnS h ["self",c.a1] (initM c) fI) (ga:findIn K (.ref a) "__getattribute__"=Ja (Ja (.builtin "object.__getattribute__"))) (gh:findIn K (.ref a) "__getattr__"=Ja Option.none) (dct:hasDictIn K a=Jc)
  (fl:∀f∈ [c.f1,c.f2],findIn K (.ref a) (Qb f)=Ja Option.none) (ms:∀t∈c.ms,MethAt h K c a t) (ne:c.f1≠c.f2):ClsAt h K c a
theorem qB(h:tL l=Jc):X5 λS P k F O=>l=[S,P,k,F,Ja (.builtin "object.__new__"),O]:=⟨_,_,_,_,_,Ui h⟩
theorem xH{h:Ji}{K:Frag}{c:Cls}{a:Jg}{t:Fn}(e:methB h K c a t=Jc):MethAt h K c a t:=by
 obtain⟨T,w,X⟩:=and3 e;obtain⟨m,N,p⟩:=cD X;obtain⟨J,O⟩:=Qh.mp p;have B:=kL N;refine⟨m,(QQ _).mp T,by simpa using w,?_,Ui J,rG O⟩
 induction q:findIn K (.ref a) (Qb<|mOf t.f) with
 |none=>rw[q] at B;exact ns B
 |some u=>rw[q] at B;exact Uk Ja B
theorem Av{h:Ji}{K:Frag}{c:Cls}{a:Jg}(e:clsB h K c a=Jc):ClsAt h K c a:=by
 obtain⟨p,w,s,u⟩:=and4 e;obtain⟨o,Y,V⟩:=cD p;obtain⟨d,v,q⟩:=cD V;obtain⟨B,Q,L,P⟩:=and4 q;have g:=and3 B;have X:=and3 Q;have T:=and3 L;obtain⟨I,j,i⟩:=cD P;obtain⟨S,G,U,F,O,E⟩:=qB g.2.1;have C:=Y.trans<|congrArg Ja (uq (Ui g.1) (ni v) (Ui g.2.2) X.1 ((QQ _).mp X.2.1) E);rw[(QQ _).mp X.2.2] at C;have k:=and4 w;refine⟨I,⟨d.name,d.qualname,d.ns,d.bases,d.slotNames,d.subclasses,d.collection,o.dict,S,G,U,F,O,h.nsMap d.ns,C,.of_isNs T.1,kL j,Ke.mp T.2.1,λf m=> ?_⟩,rG i,Ui k.1,Ui k.2.1,k.2.2.1,λf m=>Ui<|Qy.mp k.2.2.2 f m,λt W=>xH<|Qy.mp s t W,Uf u⟩;obtain⟨z1,z2⟩:=Qh.mp<|Qy.mp T.2.2 f m;exact⟨Ke.mp z1,by rw[typeLookup_type,builtinLookup_eq_fast,Ui z2]⟩
theorem ClsAt.keeps{h A:Ji}{K:Frag}{c:Cls}{a:Jg}(x:ClsAt h K c a)(kp:∀b o,h.get? b=Ja o->A.get? b=Ja o):ClsAt A K c a:=by
 obtain⟨f,N,F,g,V,d,fl,s,L⟩:=x;exact⟨f,N.keeps kp,F.keeps kp,g,V,d,fl,λt W=>by obtain⟨m,p,n,e,y,F⟩:=s t W;exact⟨m,p,n,e,y,F.keeps kp⟩,L⟩
structure Seen(h:Ji)(K:Frag)(k:Kinds):Prop where
 kin:K.In h
 ok:kC K k=Jc
 ini:∀c∈k.inis,k.cs.contains c=Jc/\∃a,ck K c=Ja a/\IniAt h K a (k.flds c)
 cls:∀c,k.cl=Ja c->∃a,ck K "Bounds"=Ja a/\ClsAt h K c a
def hookE(k:Kinds):Hook where
 α:=Bool
 obs:=obsE k
 val:=λo0=>Jc
 says:=λo0 h=>∃K:Frag,Seen h K k
 of:=λo0 s e=>⟨_,j2,(and3 e).1,λc C=>by
  obtain⟨N,p⟩:=Qh.mp<|Qy.mp (and3 e).2.1 c C;obtain⟨a,J,w⟩:=cD p;exact⟨N,a,J,yG w⟩,λc C=>by
  have p:=(and3 e).2.2;unfold clsK at p;rw[C] at p;obtain⟨a,J,w⟩:=cD p;exact⟨a,J,Av w⟩⟩
 keeps:=λo0 h A z kp=>by obtain⟨K,a⟩:=z;exact⟨K,a.kin.keeps kp,a.ok,λc C=>by obtain⟨N,b,p,J⟩:=a.ini c C;exact⟨N,b,p,J.keeps kp⟩,λc C=>by obtain⟨b,p,J⟩:=a.cls c C;exact⟨b,p,J.keeps kp⟩⟩
end
section
open PySem.W PyProof.Rows
def fnOK(p:Jn)(t:Fn):Bool:=
 match (recsOf p).find? λd=>d.name==Qb t.f with
 |some d=>mR t.ps d.params&&(t.ps.all λp=>d.scope.names.lookup (Qb p)==Ja .local||d.scope.names.lookup (Qb p)==Ja .cell)&&decide t.ps.Nodup&& !d.scope.isCoroutine&& !d.scope.isGenerator&&
   d.scope.kind== .function&&(d.scope.names.all λp=>p.2 != .free)&&mSs d.scope t.b d.body&&bZ t.f
 |none=>Jd
noncomputable def valIs:Option YV->PV->Bool
 |some (.int j),.int i=>j==i
 |some (.str j),.str i=>j==Qb i
 |_,_=>Jd
def topOK(p:Jn)(loose:List Jq)(gl:List (String×PV))(tab:List Fn):Bool:=
 (tab.all (fnOK p))&&(bltNames.all λx=> !startupNames.contains (Qb x)&& !loose.contains (Qb x)&& !((recsOf p).map (·.name)).contains (Qb x)&& !((litsOf p).map (·.1)).contains (Qb x)&&
  !((clssOf p loose).map (·.name)).contains (Qb x))&&gl.all λq=>valIs (valOf p (Qb q.1)) q.2
def rD(p:Jn)(loose:List Jq)(k:Kinds):Bool:=
 (k.mks.all λc=>k.cs.contains c&&specOf p (Qb c)==Ja ("ValueError.__new__",bmV)&&(k.flds c).isEmpty)&& !k.cs.contains "ValueError"&&
 (!startupNames.contains (Qb "ValueError")&& !loose.contains (Qb "ValueError")&& !((recsOf p).map (·.name)).contains (Qb "ValueError")&& !((litsOf p).map (·.1)).contains (Qb "ValueError")&&
  !((clssOf p loose).map (·.name)).contains (Qb "ValueError"))
def fvC(K:Frag)(k:Kinds)(f:String):Option Jf:=k.cl.bind λc=>(ck K "Bounds").bind λa=>if f="Bounds" then Ja (.ref a) else if c.ms.any (·.f==f) then(findIn K (.ref a)<|Qb (mOf f)).getD Jb else Jb
def cxE(prog:Jn)(w:Jm)(B:Ji)(mg:Jq->Option Jf)(tab:List Fn)(K:Frag)(k:Kinds):Cx:=
 {prog,w,B,cls:=λc=>if k.cs.contains c then ck K c else Jb,fv:=λf=>if tab.any (·.f==f) then mg (Qb f) else fvC K k f,ok:=True,calm:=True,K,flds:=k.flds,icl:=k.cl.bind λo0=>ck K "Bounds"}
noncomputable def gxE(gl:List (String×PV))(tab:List Fn)(k:Kinds):Gx:=
 {glob:=λx=>gl.lookup x,sub:=k.sub,full:=Jc,fn:=λf=>tab.any (·.f==f)||k.cl.any λc=>f=="Bounds"||c.ms.any (·.f==f),calm:=Jc,cs:=k.cs,mks:=k.mks,inis:=k.inis,flds:=k.flds}
theorem pf{h:Ji}{o:Jp}(d:h.get? a=Ja o)(v:o.data= .func f):Looks M h (keeperOf (.ref a)) .frame:=by
 intro A Q E s q X;unfold keeperOf;refine YA<|wpAny_load (q a o d) ?_;rw[v];exact YB X
section
variable{prog p:Jn}{w:Jm}{B:Ji}{mg mb:Jq->Option Jf}{loose:List Jq}{mean:ExcName->Option Jf}{gl:List (String×PV)}{tab:List Fn}{K:Frag}{k:Kinds}
theorem xX(T:Top p loose mean mg mb B){t:Fn}(W:t∈tab)(h:fnOK p t=Jc):X4 λa o f body=>FnAt (cxE prog w B mg tab K k) t.f t.ps t.b a o f body/\mg (Qb t.f)=Ja (.ref a):=by
 unfold fnOK at h
 induction q:(recsOf p).find? λd=>d.name==Qb t.f with
 |none=>rw[q] at h;exact ft h
 |some d=>
  rw[q] at h;simp only[QL,QQ,Uj,beq_iff_eq] at h;obtain⟨⟨⟨⟨⟨⟨⟨⟨E,Y⟩,J⟩,O⟩,b⟩,C⟩,S⟩,y⟩,i⟩:=h;have n:d.name=Qb t.f:=by simpa using List.find?_some q
  obtain⟨a,o,m,c,P,e,F,X,u⟩:=T.fn d<|List.mem_of_find?_eq_some q;obtain⟨as,z,s,N,Z⟩:=i7 E;rw[n] at e;refine⟨a,o,_,d.body,⟨⟨F,X,u,rfl,rfl,rfl,rfl,λv r=> ?_,Y,J,O,b,C,S⟩,?_,⟨.frame,.inl rfl,pf F X⟩,y⟩,e⟩
  rotate_left
  ·show(if tab.any (·.f==t.f) then mg (Qb t.f) else fvC K k t.f)=_;rw[Uh (KS.mpr ⟨t,W,by simp⟩)];exact e
  ·have l:v.length=as.length:=by
    have:=Uk Yy Z;simp only[Qd] at this;exact r.trans this.symm
   rw[<-Z];exact iZ N rfl (by rw[Z];exact cL J) l
theorem ny(X:K.In B)(N:B.Ns JB mg)(e:ck K c=Ja a):mg (Qb c)=Ja (.ref a):=by
 unfold ck at e
 induction h:nsIn K JB (Qb c) with
 |none=>rw[h] at e;exact ns e
 |some o=>induction o with
  |none=>rw[h] at e;exact ns e
  |some v=>
   rw[h] at e
   induction v using Value.casesOn with
   |ref b=>obtain rfl:=sj e;exact vT X N h
   |_=>exact ns e
theorem rT{tab:List Fn}(h:tab.all (fnOK p)=Jc)(j:tab.any (·.f==f)=Jc):bZ f=Jc:=by
 obtain⟨t,W,e⟩:=KS.mp j;have e:t.f=f:=Ui e;subst e;have h:=Qy.mp h t W;unfold fnOK at h
 induction v:(recsOf p).find? λd=>d.name==Qb t.f with
 |none=>rw[v] at h;exact ft h
 |some d=>rw[v] at h;exact(Qh.mp h).2
inductive FvS(B:Ji)(K:Frag)(k:Kinds)(f:String)(v:Jf):Prop
 |cls (c:Cls) (a:Jg) (h:k.cl=Ja c) (ha:ck K "Bounds"=Ja a) (S:ClsAt B K c a) (e:f="Bounds") (ev:v= .ref a):FvS B K k f v
 |me (c:Cls) (a m:Jg) (t:Fn) (h:k.cl=Ja c) (ha:ck K "Bounds"=Ja a) (S:ClsAt B K c a) (ht:t∈c.ms) (e:t.f=f) (p:bZ f=Jd) (n:mOf f∉ [c.f1,c.f2]) (q:findIn K (.ref a) (Qb (mOf f))=Ja (Ja (.ref m))) (ty:typeIn K (.ref m)=Ja (.type "function")) (F:FnS B t.ps (λsc b=>mSs sc t.b b) m) (ev:v= .ref m):FvS B K k f v
theorem rp(l:∀c,k.cl=Ja c->∃a,ck K "Bounds"=Ja a/\ClsAt B K c a)(h:fvC K k f=Ja v):FvS B K k f v:=by
 obtain⟨c,C,h⟩:=Qn.mp h;obtain⟨a,T,h⟩:=Qn.mp h;obtain⟨Y,X,S⟩:=l c C;obtain rfl:=sj<|T.symm.trans X;by_cases q:f="Bounds"
 ·rw[Uh q] at h;exact .cls c a C T S q (sj h).symm
 ·rw[Ug q] at h;by_cases z:c.ms.any (·.f==f)=Jc
  ·rw[Uh z] at h;obtain⟨t,W,e⟩:=KS.mp z;have e:t.f=f:=Ui e;subst e;obtain⟨I,N,F,g,V,d,fl,s,L⟩:=id S;obtain⟨m,p,n,e,y,F⟩:=s t W;rw[e] at h;exact .me c a m t C T S W rfl p n e y F (sj h).symm
  ·rw[Ug z] at h;exact ns h
theorem q0(h:k.cl=Ja c)(T:ck K "Bounds"=Ja a):fvC K k "Bounds"=Ja (.ref a):=by
 unfold fvC;rw[h,T,Kw,Kw];exact Uh rfl
theorem t5{c:Cls}{t:Fn}(C:k.cl=Ja c)(h:ck K "Bounds"=Ja a)(W:t∈c.ms)(p:bZ t.f=Jd)(e:findIn K (.ref a) (Qb (mOf t.f))=Ja (Ja (.ref m))):fvC K k t.f=Ja (.ref m):=by
 unfold fvC;rw[C,h,Kw,Kw,Ug<|λq=>by rw[q] at p;exact absurd p<|by decide,Uh<|KS.mpr ⟨t,W,beq_self_eq_true t.f⟩,e];rfl
theorem yn{C:Cx}{t:Jk->List Jo->Bool}(F:FnS C.B ps t m):Kp C (.ref m):=by obtain⟨o,f,b,F,o0,o0⟩:=F;exact⟨.frame,.inl rfl,pf F.ho F.hd⟩
theorem z6(T:Top p loose mean mg mb B)(X:K.In B)(l:∀c,k.cl=Ja c->∃a,ck K "Bounds"=Ja a/\ClsAt B K c a)(h:topOK p loose gl tab=Jc):GOK (cxE prog w B mg tab K k) (gxE gl tab k) mg mb:=by
 unfold topOK at h;simp only[QL] at h;obtain⟨⟨Y,Q⟩,J⟩:=h;refine⟨T.g,T.b,T.nolimit,λx hx=> ?_,λx q U=> ?_,(λo0=>trivial),λo0=>trivial,λf v u W=> ?_,λf W=> ?_⟩
 ·have:=Qy.mp Q x hx;simp only[QL,QQ,Yu,decide_eq_false_iff_not] at this;obtain⟨⟨⟨⟨a,b⟩,c⟩,d⟩,e⟩:=this;refine⟨T.free _ a b c d e,T.builtins _ λq=> ?_⟩;exact absurd (show "__name__"∈bltNames from ofString_inj q▸hx)<|by decide
 ·have V:gl.lookup x=Ja q:=U;have O:(x,q)∈gl:=by
   clear J Y Q U
   induction gl with
   |nil=>simp at V
   |cons a r A=>
    obtain⟨y,j⟩:=a;by_cases e:x=y
    ·subst e;simp at V;subst V;exact Kq
    ·rw[Yr,beq_eq_false_iff_ne.mpr e] at V;exact Kl _<|A V
  have:=Qy.mp J _ O
  induction E:valOf p (Qb x) with
  |none=>rw[E] at this;exact ft this
  |some d=>
   rw[E] at this;obtain⟨v,L,g⟩:=T.const _ _ E;refine⟨v,L,λσ h=> ?_⟩;have s:=g h
   induction d using PyData.casesOn with
   |int j=>induction q using PV.casesOn with
    |int i=>
     have e:j=i:=Ui this;subst e;cases s;exact⟨_,rfl⟩
    |_=>exact ft this
   |str j=>induction q using PV.casesOn with
    |str i=>
     have e:j=Qb i:=Ui this;subst e;cases s;exact⟨_,rfl⟩
    |_=>exact ft this
   |_=>exact ft this
 ·show mg _=_;replace W:(if tab.any (·.f==f) then mg (Qb f) else fvC K k f)=Ja v:=W;by_cases q:tab.any (·.f==f)=Jc
  ·rw[Uh q] at W;exact W
  ·rw[Ug q] at W
   rcases rp l W with⟨c,a,h,D,S,rfl,rfl⟩|⟨c,a,m,t,h,D,S,H,e,P,o0⟩
   ·exact ny X T.g D
   ·exact tf<|u.symm.trans P
 ·by_cases q:tab.any (·.f==f)=Jc
  ·obtain⟨t,H,e⟩:=KS.mp q;have e:t.f=f:=by simpa using e
   subst e;obtain⟨a,o,fd,M,F,L⟩:=xX (prog:=prog) (w:=w) (tab:=tab) (K:=K) (k:=k) T H<|Qy.mp Y t H;exact⟨.ref a,F.fv,F.kp⟩
  ·have W:k.cl.any (λc=>f=="Bounds"||c.ms.any (·.f==f))=Jc:=(Bool.or_eq_true_iff.mp W).resolve_left q;have G:∀v,fvC K k f=Ja v->(cxE prog w B mg tab K k).fv f=Ja v:=λv e=>(Ug q).trans e;obtain⟨c,Z,W⟩:=cD W;obtain⟨a,D,S⟩:=l c Z;obtain⟨fI,N,F,ga,gh,R,fl,I,ne⟩:=S
   rcases Bool.or_eq_true_iff.mp W with z|z
   ·obtain rfl:=Ui z;exact⟨.ref a,G _<|q0 Z D,NewAt.kp (C:=cxE prog w B mg tab K k) N⟩
   ·obtain⟨t,H,e⟩:=KS.mp z;have e:t.f=f:=Ui e;subst e;obtain⟨m,p,n,e,ty,F⟩:=I t H;exact⟨.ref m,G _<|t5 Z D H p e,yn (C:=cxE prog w B mg tab K k) F⟩
end
section
variable{prog p:Jn}{w:Jm}{B:Ji}{mg mb:Jq->Option Jf}{loose:List Jq}{mean:ExcName->Option Jf}{gl:List (String×PV)}{tab:List Fn}{K:Frag}{k:Kinds}
theorem iw(h:kC K k=Jc)(C:k.cs.contains c=Jc):∃a,A5 (ck K c=Ja a) (dh K a=Jc) (exmOne K (.ref a) (.type "ValueError")=Ja (k.sub c "ValueError")) (∀f∈k.flds c,findIn K (.ref a) (Qb f)=Ja Jb) (∀d b,k.cs.contains d=Jc->ck K d=Ja b->exmOne K (.ref a) (.ref b)=Ja (k.sub c d)):=by
 have N:=Qy.mp h c (by simpa using C);unfold vr at N
 induction e:ck K c with
 |none=>rw[e] at N;exact ft N
 |some a=>
  rw[e] at N;obtain⟨Y,J,W,O⟩:=and4 N;refine⟨a,rfl,Y,beq_iff_eq.mp J,λf j=>beq_iff_eq.mp<|Qy.mp W f j,λd b v R=> ?_⟩;have n:=Qy.mp O d (by simpa using v);rw[R] at n;exact beq_iff_eq.mp n
theorem yZ(T:Top p loose mean mg mb B)(X:K.In B)(h:kC K k=Jc)(i:∀c∈k.inis,k.cs.contains c=Jc/\∃a,ck K c=Ja a/\IniAt B K a (k.flds c))(hp:rD p loose k=Jc)(g:∀c,k.cl=Ja c->∃a,ck K "Bounds"=Ja a/\ClsAt B K c a)(U:∀c,k.cl=Ja c->k.flds "Bounds"=[c.f1,c.f2])(A:∀f,tab.any (·.f==f)=Jc->bZ f=Jc):ExcOK (cxE prog w B mg tab K k) (gxE gl tab k) mg mb:=by
 obtain⟨o,H,M⟩:=and3 hp;have l:∀ {c:String} {a:Jg},(cxE prog w B mg tab K k).cls c=Ja a->k.cs.contains c=Jc/\ck K c=Ja a:=λ{c a} e=>by
  have e:(if k.cs.contains c then ck K c else Jb)=Ja a:=e;by_cases q:k.cs.contains c=Jc
  ·rw[Uh q] at e;exact⟨q,e⟩
  ·exact ns<|(Ug q).symm.trans e
 have s:∀c,k.cs.contains c=Jc->∃a,(cxE prog w B mg tab K k).cls c=Ja a:=λc C=>by
  obtain⟨a,e,o0⟩:=iw h C;exact⟨a,(Uh C).trans e⟩
 refine⟨X,λc a e=> ?_,s,λc C=> ?_,λc a d b L j=> ?_,λc=>rfl,λc C=> ?_,λc a f e r=> ?_,λc C=> ?_,λc a e=> ?_,?_,λc a e Q=> ?_,λa e=> ?_⟩
 ·obtain⟨Y,Z⟩:=l e;obtain⟨R,L,j,o0⟩:=iw h Y;obtain rfl:=sj<|Z.symm.trans L;exact⟨ny X T.g Z,j⟩
 ·have C:k.mks.contains c=Jc:=C;exact s c (and3<|Qy.mp o c (by simpa using C)).1
 ·obtain⟨Y,Z⟩:=l L;obtain⟨q3,q4⟩:=l j;obtain⟨R,W,o0,o0,o0,u⟩:=iw h Y;obtain rfl:=sj<|Z.symm.trans W;exact u d b q3 q4
 ·have C:k.mks.contains c=Jc:=C;exact List.isEmpty_iff.mp (and3<|Qy.mp o c (by simpa using C)).2.2
 ·obtain⟨Y,Z⟩:=l e;obtain⟨R,W,o0,o0,u,o0⟩:=iw h Y;obtain rfl:=sj<|Z.symm.trans W;exact u f r
 ·have C:k.inis.contains c=Jc:=C;obtain⟨h1,a,h2,h3⟩:=i c (by simpa using C);exact⟨a,(Uh h1).trans h2,h3⟩
 ·obtain⟨Y,Z⟩:=l e;obtain⟨R,W,o0,u,o0⟩:=iw h Y;obtain rfl:=sj<|Z.symm.trans W;exact u
 ·have hv:k.cs.contains "ValueError"=Jd:=by simpa using H
  obtain⟨z1,z2,G,z4,I⟩:=and5 M;simp only[QQ,Yu,decide_eq_false_iff_not] at z1 z2 G z4 I;refine⟨by show(if k.cs.contains "ValueError" then _ else _)=_;rw[hv];rfl,T.free _ z1 z2 G z4 I,(T.builtins _<|by decide+kernel).trans (by decide+kernel)⟩
 ·have Q:k.mks.contains c=Jc:=Q;have hs:=beq_iff_eq.mp (and3<|Qy.mp o c (by simpa using Q)).2.1;obtain⟨C',O,o0⟩:=T.ownAt hs;have L:=ny X T.g (l e).2;have j:=O.bound;rw[L] at j;cases j;exact O.own
 ·obtain⟨c,C,E⟩:=Qn.mp (show(k.cl.bind λo0=>ck K "Bounds")=Ja a from e);obtain⟨R,P,S⟩:=g c C;obtain rfl:=sj<|E.symm.trans P;obtain⟨fI,N,F,ga,gh,J,fl,ms,ne⟩:=S;refine⟨ga,gh,J,λf r=>fl f<|U c C▸r,λf v y hv=> ?_⟩;have hv:(if tab.any (·.f==f) then mg (Qb f) else fvC K k f)=Ja v:=hv;by_cases q:tab.any (·.f==f)=Jc
  ·exact tf<|(A f q).symm.trans y
  ·rw[Ug q] at hv
   rcases rp g hv with⟨c',D,h,V,S,rfl,rfl⟩|⟨c',D,m,t,h,V,S,ht,e,pp,n,q,ty,F,rfl⟩
   ·exact tf<|(show bZ "Bounds"=Jc by decide).symm.trans y
   ·obtain rfl:=sj<|E.symm.trans V;obtain rfl:=sj<|C.symm.trans h;exact⟨m,rfl,q,ty,λx hx z=>n<|ofString_inj z▸(U c C▸hx:x∈ [c.f1,c.f2])⟩
end
end
section
set_option backward.match.sparseCases true
open PySem.W PyProof.Rows
theorem my:∀ {xs:List WData},WShape.hasItems [] xs .int=Jc->∃ns:List Int,xs=ns.map .int
 |[]=>λo0=>⟨[],rfl⟩
 |x::xs=>λh=>by
  have h:(WShape.has [] x .int&&WShape.hasItems [] xs .int)=Jc:=h;obtain⟨N,p⟩:=Qh.mp h;obtain⟨ns,rfl⟩:=my p;have:∃i,x= .int i:=by
   exact hasW_int N
  obtain⟨i,rfl⟩:=this;exact⟨i::ns,rfl⟩
theorem ti:WShape.has [] (.bool Jc) .bool=Jc:=by decide+kernel
theorem su:WTm.holds [] (.eq .res (.lit (.bool Jc))) {args:=a,res:=Ja (.bool Jc),after:=b}=Jc:=by
 have h:W.same (.bool Jc) (.bool Jc)=Jc:=by decide+kernel
 show(match Ja (WData.bool (W.same (.bool Jc) (.bool Jc))) with
  |some (.bool Jc)=>Jc
  |_=>Jd)=Jc
 rw[h]
theorem An{xs:List WData}(h:63<xs.length):WTm.holds [] (.and (.not (.lt (.lit (.int (63:Nat))) (.len (.arg 0)))) (.lit (.bool Jc))) {args:=[.list xs]}=Jd:=by
 have e:less? (.int (63:Nat)) (.int (xs.length:Nat))=Ja Jc:=by simp[less?,Num.less?];exact QZ.mpr h
 have v:WTm.value [] (.lt (.lit<|.int (63:Nat))<|.len (.arg 0)) {args:=[.list xs]}=Ja (.bool Jc):=Uk (Wt WData.bool) e;have n:WTm.value [] (.not<|.lt (.lit<|.int (63:Nat)) (.len<|.arg 0)) {args:=[.list xs]}=Ja (.bool Jd):=by
  show(match WTm.value [] (.lt (.lit (.int (63:Nat))) (.len (.arg 0))) {args:=[.list xs]} with
   |some (.bool b)=>Ja<|WData.bool (!b)
   |_=>Jb)=_
  rw[v];rfl
 have M:WTm.value [] (.and (.not<|.lt (.lit<|.int (63:Nat)) (.len<|.arg 0))<|.lit (.bool Jc)) {args:=[.list xs]}=Ja (.bool Jd):=by
  show(match WTm.value [] (.not (.lt (.lit (.int (63:Nat))) (.len (.arg 0)))) {args:=[.list xs]} with
   |some (.bool Jd)=>Ja<|WData.bool Jd
   |some (.bool Jc)=>(match WTm.value [] (.lit (.bool Jc)) {args:=[.list xs]} with
    |some (.bool x)=>Ja<|.bool x
    |_=>Jb)
   |_=>Jb)=_
  rw[n]
 unfold WTm.holds;rw[M]
theorem ux{l:OpenLaw}(m:l.most=Ja 63)(b:l.bound=Jb){args:List WData}(h:l.row.toRowW.claim.pre args=Jc):∃ns:List Int,args=[.list (ns.map .int)]/\ns.length<=63:=by
 have h:(WShape.hasAll [] args [.list .int]&&(OpenLaw.pre l).holds [] {args:=args})=Jc:=h;simp only[QL] at h;obtain⟨N,p⟩:=h
 match args,N with
 |[x],N=>
  have hx:∃s,x= .list s/\WShape.hasItems [] s .int=Jc:=by
   have N:(WShape.has [] x (.list .int)&&WShape.hasAll [] [] [])=Jc:=N;have N:=(Qh.mp N).1;exact hasW_list N
  obtain⟨s,rfl,hx⟩:=hx;obtain⟨ns,rfl⟩:=my hx;refine⟨ns,rfl,?_⟩;unfold OpenLaw.pre at p;rw[m,b] at p;by_cases T:ns.length<=63
  ·exact T
  ·rw[An (by rw[Qd];exact Nat.not_le.mp T)] at p;exact ft p
 |[],N=>exact absurd N QC
 |x::y::r,N=>
  have N:(WShape.has [] x (.list .int)&&WShape.hasAll [] (y::r) [])=Jc:=N;exact absurd (Qh.mp N).2 QC
theorem li{c:Jq->Option Jg}:∀ {ns:List Int} {vs:List Jf} {as:List Jg},ReadsAllW [] c h vs (ns.map .int) as->vs.length=ns.length/\∀ (i:Nat) (k:Int),ns[i]? =Ja k->∃t,vs[i]? =Ja (Value.int k t)
 |[]=>λr=>by cases r;exact⟨rfl,λi k e=>by simp at e⟩
 |n::ns=>λr=>by
  cases r with
  |cons f M=>
   cases f;obtain⟨a,b⟩:=li M;refine⟨by simp[a],λi k e=> ?_⟩
   induction i using Nat.casesOn with
   |zero=>simp at e;subst e;exact⟨_,rfl⟩
   |succ j=>simpa using b j k (by simpa using e)
noncomputable def noPH:PH:=λo0=>Jb
inductive ClsC(C:Cx)(c:Cls):Prop
 |mk (a:Jg) (icl:C.icl=Ja a) (fv:C.fv "Bounds"=Ja (.ref a)) (S:ClsAt C.B C.K c a) (fl:C.flds "Bounds"=[c.f1,c.f2]) (ms:∀t∈c.ms,X4 λa o fd body=>FnAt C t.f t.ps t.b a o fd body):ClsC C c
theorem AT{prog:Jn}{w:Jm}{B:Ji}{g:Jq->Option Jf}{tab:List Fn}{K:Frag}{k:Kinds}{c:Cls}(h:k.cl=Ja c)(l:∀c,k.cl=Ja c->∃a,ck K "Bounds"=Ja a/\ClsAt B K c a)(j:∀c,k.cl=Ja c->k.flds "Bounds"=[c.f1,c.f2])(y:∀f,tab.any (·.f==f)=Jc->bZ f=Jc)(Y:tab.any (·.f=="Bounds")=Jd):ClsC (cxE prog w B g tab K k) c:=by
 obtain⟨a,T,S⟩:=l c h;obtain⟨D,N,F,z,O,d,fl,s,G⟩:=id S;refine⟨a,?_,?_,S,j c h,λt W=> ?_⟩
 ·show(k.cl.bind λo0=>ck K "Bounds")=_;rw[h];exact T
 ·show(if tab.any (·.f=="Bounds") then g (Qb "Bounds") else fvC K k "Bounds")=_;rw[Ug (by rw[Y];exact QC)];exact q0 h T
 ·obtain⟨m,p,n,e,Q,F⟩:=s t W;obtain⟨o,r,b,I,V,L⟩:=id F;refine⟨m,o,r,b,I,?_,yn (C:=cxE prog w B g tab K k) F,L⟩;show(if tab.any (·.f==t.f) then g (Qb t.f) else fvC K k t.f)=_;rw[Ug (λq=>QC<|p.symm.trans (y _ q))];exact t5 h T W p e
set_option tactic.hygienic true in
theorem law_walk{l:OpenLaw}{XP:(Jq->Option Jf)->Ji->Prop}{d:DefRec}(R:List (String×PV))(tab:List Fn)(k:Kinds)
  (hm:l.most=Ja 63)(hb:l.bound=Jb)(hn:d.name=Qb "law")(h:topOK q (looseW q loose) R tab=Jc)(V:rD q (looseW q loose) k=Jc)(u:tab.any (·.f=="law")=Jc)(hN:N<=300)(j:∀c,k.cl=Ja c->k.flds "Bounds"=[c.f1,c.f2])(M:tab.any (·.f=="Bounds")=Jd)
  (r:∀ (C:Cx) (g D:Jq->Option Jf),GOK C (gxE R tab k) g D->ExcOK C (gxE R tab k) g D->C.ok->(∀t∈tab,X4 λa o S body=>FnAt C t.f t.ps t.b a o S body)->(∀c,k.cl=Ja c->ClsC C c)->∀ns:List Int,ns.length<=63->aO C N "law" [.scr ns] noPH (λv o0=>v= .bool Jc) λo0 o0=>False):
  WalkO q loose XP (Hook.says<|hookE k) l.row.toRowW d X λf vs=>PySem.call f vs:=by
 intro w ab s g D G Y fa o pm cd af dV kV ho hd ad hD Z hg args P as H aa O ae hlo;refine Ground.open G λT o0 o0 o0 o0=> ?_;obtain⟨K,z,E,Q,B⟩:=Y;have y:∀f,tab.any (·.f==f)=Jc->bZ f=Jc:=λf hf=>by
  unfold topOK at h;simp only[QL] at h;exact rT h.1.1 hf
 obtain⟨ns,rfl,A⟩:=ux hm hb H;have hG:GOK (cxE l.row.toRowW.prog w s.heap g tab K k) (gxE R tab k) g D:=z6 T z B h;have hF:∀t∈tab,X4 λa o S body=>FnAt (cxE l.row.toRowW.prog w s.heap g tab K k) t.f t.ps t.b a o S body:=λt W=>by
  unfold topOK at h;simp only[QL] at h;obtain⟨a,o,S,body,F,o0⟩:=xX (prog:=l.row.toRowW.prog) (w:=w) (tab:=tab) (K:=K) (k:=k) T W<|Qy.mp h.1.1 t W;exact⟨a,o,S,body,F⟩
 obtain⟨v,hv,o0,U⟩:=r _ g D hG (yZ T z E Q V B j y) trivial hF (λc hc=>AT hc B j y M) ns A;have hv:g (Qb "law")=Ja v:=by
  simp only[cxE] at hv;rw[Uh u] at hv;exact hv
 rw[hn] at Z;obtain rfl:=sj<|Z.symm.trans hv;cases O with
 |cons r1 r2=>
  cases r2;cases r1 with
  |list e1 e2 e3 e4=>
   rename_i L o' vs n ah
   obtain⟨e5,e6⟩:=li e4;have m:Sim (cxE l.row.toRowW.prog w s.heap g tab K k) noPH s.heap:=⟨λb o e=>e,λa o e=>by simp[noPH] at e,λa o e=>by simp[noPH] at e,λa o e=>by simp[noPH] at e⟩
   have ak:AOK (cxE l.row.toRowW.prog w s.heap g tab K k) N callerA [] noPH s.heap:=by
    refine⟨?_,?_,rfl,λen he=>by simp at he,λo0=>rfl,.inl rfl⟩
    ·show 1+claimMargin+N+2<J7;unfold claimMargin J7;exact zl (Kk (KJ hN _) 2)<|by decide
    ·show 4+30*N+300<cLine;unfold cLine;exact zl (Kk (KJ (WP 30 hN) 4) 300)<|by decide
   have I:VRs (cxE l.row.toRowW.prog w s.heap g tab K k) noPH s.heap [.scr ns] [.ref L]:=by
    refine⟨_,_,rfl,⟨L,o',n,vs,rfl,e1,e2,e3,by simpa using e5,λi k e=> ?_⟩,rfl⟩;obtain⟨t,W⟩:=e6 i k e;exact⟨t,by simpa using W⟩
   refine YC (U callerA [] s [.ref L] ak m I) (λv s' hv=> ?_) λo0 o0 x=>Vl.Internal.XP.none x;obtain⟨p,ac,h1,h2,h3,J,rfl⟩:=hv;change _=_ at h1;subst h1;refine GoodW.toG ⟨.inl ⟨.bool Jc,.bool Jc,[],rfl,λai=>rfl,.bool Jc,?_,λo0=>⟨List.nodup_nil,λa ha=>by cases ha⟩⟩,λb o e=>h2.base b o e,J.2,J.1.trans hg⟩;show(WShape.has [] (.bool Jc) .bool&&WTm.holds [] (.eq .res<|.lit (.bool Jc)) _)=Jc;rw[ti,su];rfl
end
set_option genCtorIdx false in
inductive D where
 |none
 |bool(b:Bool)
 |int(i:Int)
 |str(s:String)
 |tup(l:List D)
 |list(l:List D)
 |scr(l:List Int)
 |hole
 |exc(c:String)(l:List D)
 |dict(ks:List (List KA))(l:List D)
 |inst(l:List D)
 deriving Inhabited
noncomputable abbrev D.ctorIdx(x:D):Nat:=D.casesOn x 0 (λo0=>1) (λo0=>2) (λo0=>3) (λo0=>4) (λo0=>5) (λo0=>6) 7 (λo0 o0=>8) (λo0 o0=>9) (λo0=>10)
mutual
noncomputable def D.atom:D->Bool
 | .tup l=>D.atoms l
 | .list _=>Jd
 | .exc _ l=>D.atoms l
 | .inst l=>D.atoms l
 | .dict _ _=>Jd
 |_=>Jc
noncomputable def D.atoms:List D->Bool
 |[]=>Jc
 |d::ds=>D.atom d&&D.atoms ds
end
def ExcF(σ:PH)(a:Jg)(c:String)(d:Jg)(l:List PV):Prop:=(σ a=Ja (.exc c<|Ja d)/\σ d=Ja (.fd c l))\/(σ a=Ja (.exc c Jb)/\l=[])
mutual
noncomputable def RdF(σ:PH):D->PV->List Jg->Prop
 | .none,v,F=>v= .none/\F=[]
 | .bool b,v,F=>v= .bool b/\F=[]
 | .int i,v,F=>v= .int i/\F=[]
 | .str s,v,F=>v= .str s/\F=[]
 | .scr l,v,F=>(v= .scr l/\l.length<=lim)/\F=[]
 | .hole,_,F=>F=[]
 | .exc c ds,v,F=>X3 λa d l=>A3 (v= .ref a) (ExcF σ a c d l)<|RdFs σ ds l F
 | .inst ds,v,F=>X3 λa d l=>A4 (v= .ref a) (σ a=Ja (.inst d)) (σ d=Ja (.fd "Bounds" l))<|RdFs σ ds l F
 | .dict ks ds,v,F=>X3 λa l G=>A5 (v= .ref a) (σ a=Ja (.dict ks l)) ((l.length<=lim/\ks.length=l.length)) (F=a::G)<|RdFs σ ds l G
 | .tup ds,v,F=>∃l,v= .tup l/\l.length<=lim/\RdFs σ ds l F
 | .list ds,v,F=>X3 λa l G=>A5 (v= .ref a) (σ a=Ja (.list l)) (l.length<=lim) (F=a::G)<|RdFs σ ds l G
noncomputable def RdFs(σ:PH):List D->List PV->List Jg->Prop
 |[],l,F=>l=[]/\F=[]
 |d::ds,l,F=>X4 λp ps j N=>A4 (l=p::ps) (F=j++N) (RdF σ d p j)<|RdFs σ ds ps N
end
noncomputable abbrev MO:={o:PO // o.fixed=Jd}
def Ext(σ σ':PH):Prop:=∀a o,σ a=Ja o->σ' a=Ja o
theorem Ext.refl(σ:PH):Ext σ σ:=λo0 o0 h=>h
theorem Ext.trans(x:Ext a b)(y:Ext b c):Ext a c:=λp o h=>y p o<|x p o h
theorem Ext.set{σ:PH}(h:σ a=Jb)(o:PO):Ext σ (σ.set a o):=λb p e=>by
 rw[PH.set_ne]
 ·exact e
 ·rintro rfl;exact ns<|h.symm.trans e
structure Ag(F:List Jg)(σ σ':PH):Prop where
 at_:∀a∈F,σ' a=σ a
 oth:∀a o,σ a=Ja o->o.fixed=Jc->σ' a=Ja o
theorem Ag.left(x:Ag (F++G) σ σ'):Ag F σ σ':=⟨λa h=>x.at_ a (Qj _ h),x.oth⟩
theorem Ag.right(x:Ag (F++G) σ σ'):Ag G σ σ':=⟨λa h=>x.at_ a (Qe _ h),x.oth⟩
theorem Ag.tail(x:Ag (a::G) σ σ'):Ag G σ σ':=⟨λb h=>x.at_ b (.tail _ h),x.oth⟩
mutual
theorem RdF.ag:∀ {d:D} {v:PV} {F:List Jg},RdF σ d v F->Ag F σ σ'->RdF σ' d v F
 | .none=>λr o0=>r
 | .bool _=>λr o0=>r
 | .int _=>λr o0=>r
 | .str _=>λr o0=>r
 | .scr _=>λr o0=>r
 | .hole=>λr o0=>r
 | .exc _ _=>λN x=>by obtain⟨a,d,l,E,Y,h⟩:=N;exact⟨a,d,l,E,Y.imp (λq=>⟨x.oth a _ q.1 rfl,x.oth d _ q.2 rfl⟩) λq=>⟨x.oth a _ q.1 rfl,q.2⟩,RdFs.ag h x⟩
 | .inst _=>λN x=>by obtain⟨a,d,l,E,Y,J,h⟩:=N;exact⟨a,d,l,E,x.oth a _ Y rfl,x.oth d _ J rfl,RdFs.ag h x⟩
 | .dict _ _=>λN x=>by obtain⟨a,l,G,E,Y,J,h,B⟩:=N;exact⟨a,l,G,E,(x.at_ a<|h▸ .head _).trans Y,J,h,RdFs.ag B (h▸x).tail⟩
 | .tup _=>λN x=>by obtain⟨l,E,Y,J⟩:=N;exact⟨l,E,Y,RdFs.ag J x⟩
 | .list _=>λN x=>by obtain⟨a,l,G,E,Y,J,h,B⟩:=N;exact⟨a,l,G,E,(x.at_ a<|h▸ .head _).trans Y,J,h,RdFs.ag B (h▸x).tail⟩
theorem RdFs.ag:∀ {ds:List D} {l:List PV} {F:List Jg},RdFs σ ds l F->Ag F σ σ'->RdFs σ' ds l F
 |[]=>λr o0=>r
 |_::_=>λN x=>by obtain⟨p,ps,j,P,E,Y,J,h⟩:=N;exact⟨p,ps,j,P,E,Y,RdF.ag J (Y▸x).left,RdFs.ag h (Y▸x).right⟩
end
mutual
theorem RdF.dom:∀ {d:D} {v:PV} {F:List Jg},RdF σ d v F->∀a∈F,∃l:MO,σ a=Ja l.1
 | .none=>λr a h=>by rw[r.2] at h;cases h
 | .bool _=>λr a h=>by rw[r.2] at h;cases h
 | .int _=>λr a h=>by rw[r.2] at h;cases h
 | .str _=>λr a h=>by rw[r.2] at h;cases h
 | .scr _=>λr a h=>by rw[r.2] at h;cases h
 | .hole=>λr a h=>by rw[show _=[] from r] at h;cases h
 | .exc _ _=>λN a h=>by obtain⟨o0,o0,l,E,Y,w⟩:=N;exact RdFs.dom w a h
 | .inst _=>λN a h=>by obtain⟨o0,o0,l,E,Y,J,w⟩:=N;exact RdFs.dom w a h
 | .dict _ _=>λN a h=>by
  obtain⟨b,l,G,E,Y,J,w,B⟩:=N;rw[w] at h;cases h with
  |head=>exact⟨⟨_,rfl⟩,Y⟩
  |tail _ h=>exact RdFs.dom B a h
 | .tup _=>λN a h=>by obtain⟨l,E,Y,J⟩:=N;exact RdFs.dom J a h
 | .list _=>λN a h=>by
  obtain⟨b,l,G,E,Y,J,w,B⟩:=N;rw[w] at h;cases h with
  |head=>exact⟨⟨_,rfl⟩,Y⟩
  |tail _ h=>exact RdFs.dom B a h
theorem RdFs.dom:∀ {ds:List D} {l:List PV} {F:List Jg},RdFs σ ds l F->∀a∈F,∃l:MO,σ a=Ja l.1
 |[]=>λr a h=>by rw[r.2] at h;cases h
 |_::_=>λN a h=>by
  obtain⟨p,ps,j,q,E,Y,J,w⟩:=N;rw[Y] at h
  rcases Qr.mp h with h|h
  ·exact RdF.dom J a h
  ·exact RdFs.dom w a h
end
theorem Ag.of_ext(x:Ext σ σ')(h:∀a∈F,∃l:MO,σ a=Ja l.1):Ag F σ σ':=⟨λa T=>by obtain⟨l,e⟩:=h a T;exact(x a _ e).trans e.symm,λa o0 e o0=>x a _ e⟩
theorem RdF.ext{d:D}(r:RdF σ d v F)(x:Ext σ σ'):RdF σ' d v F:=r.ag<|.of_ext x r.dom
theorem RdFs.ext{d:List D}(r:RdFs σ d v F)(x:Ext σ σ'):RdFs σ' d v F:=r.ag<|.of_ext x r.dom
mutual
theorem RdF.atom:∀ {d:D} {v:PV} {F:List Jg},RdF σ d v F->d.atom=Jc->F=[]
 | .none=>λr o0=>r.2
 | .bool _=>λr o0=>r.2
 | .int _=>λr o0=>r.2
 | .str _=>λr o0=>r.2
 | .scr _=>λr o0=>r.2
 | .hole=>λr o0=>r
 | .exc _ _=>λN h=>by obtain⟨o0,o0,l,E,Y,w⟩:=N;exact RdFs.atom w h
 | .inst _=>λN h=>by obtain⟨o0,o0,l,E,Y,J,w⟩:=N;exact RdFs.atom w h
 | .dict _ _=>λo0 h=>ft h
 | .tup _=>λN h=>by obtain⟨l,E,Y,J⟩:=N;exact RdFs.atom J h
 | .list _=>λo0 h=>ft h
theorem RdFs.atom:∀ {d:List D} {v:List PV} {F:List Jg},RdFs σ d v F->D.atoms d=Jc->F=[]
 |[]=>λr o0=>r.2
 |_::_=>λN h=>by
  obtain⟨p,ps,j,q,E,Y,J,w⟩:=N;obtain⟨a,b⟩:=Qh.mp h;rw[Y,RdF.atom J a,RdFs.atom w b];rfl
end
abbrev Tag:=Option<|List String
noncomputable def tj:Tag->Tag->Tag
 |none,t=>t
 |some a,Jb=>Ja a
 |some a,Ja b=>Ja<|a++b
noncomputable def tg0(d:D)(t:Tag):Tag:=cond d.atom Jb t
def tgl(l:List D)(t:Tag):Tag:=cond (D.atoms l) Jb t
noncomputable def tjs:List (D×Tag)->Tag
 |[]=>Jb
 |p::r=>tj p.2<|tjs r
noncomputable abbrev fsts(l:List (D×Tag)):List D:=l.map (·.1)
noncomputable abbrev flags(l:List (D×Tag)):List (D×Bool):=l.map λp=>(p.1,p.2.isNone)
abbrev DRho:=List<|String×Option (D×Bool)
noncomputable def DRho.get:DRho->String->Option (D×Bool)
 |[],_=>Option.none
 |(y,v)::r,x=>cond (y==x) v<|DRho.get r x
noncomputable def DRho.put:DRho->String->D×Bool->DRho
 |[],_,_=>[]
 |(y,o)::r,x,v=>cond (y==x) ((y,Ja v)::r) ((y,o)::DRho.put r x v)
theorem DRho.get_if(y:String)(v:Option (D×Bool))(r:DRho)(x:String):DRho.get ((y,v)::r) x=if y=x then v else DRho.get r x:=by
 show cond (y==x) _ _=_;by_cases h:y=x
 ·rw[Uh h,beq_iff_eq.mpr h];rfl
 ·rw[Ug h,beq_eq_false_iff_ne.mpr h];rfl
theorem DRho.put_if(y:String)(o:Option (D×Bool))(r:DRho)(x:String)(v:D×Bool):DRho.put ((y,o)::r) x v=if y=x then(y,Ja v)::r else(y,o)::DRho.put r x v:=by
 show cond (y==x) _ _=_;by_cases h:y=x
 ·rw[Uh h,beq_iff_eq.mpr h];rfl
 ·rw[Ug h,beq_eq_false_iff_ne.mpr h];rfl
noncomputable def hasS:List String->String->Bool
 |[],_=>Jd
 |y::r,x=>y==x||hasS r x
theorem mQ(x:String):∀xs:List String,hasS xs x=xs.contains x
 |[]=>rfl
 |y::r=>by rw[KZ,<-mQ x r,Bool.beq_comm];rfl
noncomputable def DRho.puts:DRho->List String->List D->Bool->DRho
 |L,x::s,v::w,b=>DRho.puts (L.put x (v,b)) s w b
 |L,_,_,_=>L
noncomputable def DRho.wipe(L:DRho):DRho:=L.map λp=>(p.1,Option.none)
def DRho.frz(L:DRho):Tag->DRho
 |Option.none=>L
 |some x=>L.map λp=>(p.1,cond (hasS x p.1) (p.2.map λq=>(q.1,q.1.atom&&q.2)) p.2)
noncomputable def Nb(x:String)(b:Bool)(v:D)(r:DRho):DRho:=(x,Ja (v,b))::r
noncomputable def No(x:String)(o:Option (D×Bool))(r:DRho):DRho:=(x,o)::r
abbrev DQ:=D->Tag->Prop
abbrev DX:=String->List D->Prop
structure DCl where
 c:String->List (D×Bool)->(D->Bool->Prop)->DX->Prop
 io:String->Nat->List (D×Bool)->(D->Prop)->Prop
instance:CoeFun DCl λo0=>String->List (D×Bool)->(D->Bool->Prop)->DX->Prop:=⟨DCl.c⟩
def dnew(l:List D)(t:Tag)(Q:DQ):Prop:=l.length<=lim/\Q (.list l) t
def dtup(l:List D)(t:Tag)(Q:DQ):Prop:=l.length<=lim/\Q (.tup l) t
noncomputable def dInt(K:Int->Prop):D->Prop
 | .int x=>K x
 |_=>False
noncomputable def dBool(K:Bool->Prop):D->Prop
 | .bool x=>K x
 |_=>False
noncomputable def dDct(K:List (List KA)->List D->Prop):D->Prop
 | .dict k l=>K k l
 |_=>False
inductive WitDD(K:List (List KA)->List D->Prop)(v:D):Prop
 |mk (ks:List (List KA)) (l:List D) (e:v= .dict ks l) (k:K ks l):WitDD K v
theorem ot{K:List (List KA)->List D->Prop}(h:dDct K v):WitDD K v:=by
 induction v using D.casesOn with
 |dict k l=>exact⟨k,l,rfl,h⟩
 |_=>exact h.elim
noncomputable def dLst(K:List D->Prop):D->Prop
 | .list x=>K x
 |_=>False
theorem ew{K:Int->Prop}(h:dInt K v):Wit D.int v K:=by
 induction v using D.casesOn with
 |int x=>exact⟨x,rfl,h⟩
 |_=>exact h.elim
theorem eF{K:Bool->Prop}(h:dBool K v):Wit D.bool v K:=by
 induction v using D.casesOn with
 |bool x=>exact⟨x,rfl,h⟩
 |_=>exact h.elim
theorem eR{K:List D->Prop}(h:dLst K v):Wit D.list v K:=by
 induction v using D.casesOn with
 |list x=>exact⟨x,rfl,h⟩
 |_=>exact h.elim
def dadd(a b:D)(F t:Tag)(Q:DQ):Prop:=
 match a with
 | .int x=>dInt (λy=>Q (.int (x+y)) Jb) b
 | .list x=>dLst (λy=>dnew (x++y) (tgl (x++y) (tj F t)) Q) b
 |_=>False
def dbin(o:BOp)(a b:D)(F t:Tag)(Q:DQ):Prop:=
 match o with
 | .add=>dadd a b F t Q
 | .sub=>dInt (λx=>dInt (λy=>Q (.int (x-y)) Jb) b) a
 | .mul=>dInt (λx=>dInt (λy=>(x.natAbs<2^64\/y.natAbs<2^64)/\Q (.int (x*y)) Jb) b) a
 | .fdiv=>dInt (λx=>dInt (λy=>y≠0/\y.natAbs<1073741824/\Q (.int (x.fdiv y)) Jb) b) a
 | .mod=>dInt (λx=>dInt (λy=>y≠0/\Q (.int (x.fmod y)) Jb) b) a
 | .pow _=>dInt (λx=>dInt (λy=>0<=y/\y<=1000/\x.natAbs<2^64/\Q (.int (x^y.toNat)) Jb) b) a
mutual
noncomputable def D.okd:Nat->D->Bool
 |_,.none=>Jc
 |_,.bool _=>Jc
 |_,.int _=>Jc
 |_,.str s=>PyData.strOk<|Qb s
 |n+1,.tup l=>D.okds n l
 |n+1,.list l=>D.okds n l
 |_,_=>Jd
noncomputable def D.okds:Nat->List D->Bool
 |_,[]=>Jc
 |n,d::ds=>D.okd n d&&D.okds n ds
end
mutual
noncomputable def D.py:D->YV
 | .none=> .none
 | .bool b=> .bool b
 | .int i=> .int i
 | .str s=> .str (Qb s)
 | .tup l=> .tuple (D.pys l)
 | .list l=> .list (D.pys l)
 |_=> .none
noncomputable def D.pys:List D->List YV
 |[]=>[]
 |d::ds=>D.py d::D.pys ds
end
noncomputable def D.eqv(a b:D):Bool:=PyData.eqv a.py b.py
def deq(a b:D)(Q:Bool->Prop):Prop:=(a.okd 40=Jc/\b.okd 40=Jc)/\Q (D.eqv a b)
noncomputable def kaD:D->Option KA
 | .int i=>Ja<|.n i
 | .str s=>Ja<|.t s
 |_=>Jb
noncomputable def kasD:List D->Option (List KA)
 |[]=>Ja []
 |p::r=>(kaD p).bind λk=>(kasD r).map (k:: ·)
def keyD:D->Option (List KA)
 | .tup l=>kasD l
 |_=>Jb
noncomputable def KA.d:KA->D
 | .n i=> .int i
 | .t s=> .str s
def keyDd(k:List KA):D:= .tup (k.map KA.d)
def dlook(ks:List (List KA))(l:List D)(k:List KA):Option D:=(kidx ks k).bind λj=>l[j]?
def dkset(ks:List (List KA))(l:List D)(k:List KA)(v:D):D:=match kidx ks k with
 |some j=> .dict ks (l.set j v)
 |none=> .dict (ks++[k]) (l++[v])
def din(a b:D)(Q:Bool->Prop):Prop:=match b with
 | .list l=>(a.okd 40=Jc/\D.okds 40 l=Jc)/\Q (l.any λd=>D.eqv d a)
 | .dict s _=>oK (λk=>Q (kidx s k).isSome) (keyD a)
 |_=>False
def drel(f:Int->Int->Bool)(a b:D)(Q:Bool->Prop):Prop:=dInt (λx=>dInt (λy=>Q (f x y)) b) a
def dcmp(o:COp)(a b:D)(Q:Bool->Prop):Prop:=
 match o with
 | .eq=>deq a b Q
 | .ne=>deq a b λr=>Q<|!r
 | .in_=>din a b Q
 | .nin=>din a b λr=>Q<|!r
 | .lt=>drel (λx y=>decide (x<y)) a b Q
 | .le=>drel (λx y=>decide (x<=y)) a b Q
 | .gt _=>drel (λx y=>decide (x>y)) a b Q
 | .ge=>drel (λx y=>decide (x>=y)) a b Q
noncomputable def dlen:D->Option Nat
 | .list l=>Ja l.length
 | .tup l=>Ja l.length
 | .scr l=>Ja l.length
 |_=>Jb
def dsub:D->D->Option D
 | .list l,.int k=>(place l.length k).bind λj=>l[j]?
 | .tup l,.int k=>(place l.length k).bind λj=>l[j]?
 | .scr l,.int k=>((place l.length k).bind λj=>l[j]?).map .int
 | .dict s l,i=>(keyD i).bind λk=>dlook s l k
 |_,_=>Jb
noncomputable def dInts:List D->Option (List Int)
 |[]=>Ja []
 | .int i::r=>(dInts r).map (i:: ·)
 |_=>Jb
noncomputable def gP:List D->Option (List Bool)
 |[]=>Ja []
 | .bool i::r=>(gP r).map (i:: ·)
 |_=>Jb
noncomputable def d1(K:D->Tag->Prop):List (D×Tag)->Prop
 |[(d,t)]=>K d t
 |_=>False
theorem zX{K:D->Tag->Prop}(h:d1 K l):∃d t,l=[(d,t)]/\K d t:=by
 rcases l with o0|⟨⟨d,t⟩,o0|⟨o0,o0⟩⟩<;>first|exact h.elim|exact⟨d,t,rfl,h⟩
noncomputable def dSeq(K:List D->Prop):D->Prop
 | .tup l=>K l
 | .list l=>K l
 |_=>False
def dList(Q:DQ)(t:Tag):D->Prop
 | .tup l=>Q (.list l)<|tgl l t
 | .list l=>Q (.list l)<|tgl l t
 | .dict s _=>(s.length<=lim/\∀k∈s,k.length<=lim)/\Q (.list<|s.map keyDd) Jb
 |_=>False
def dMin(Q:DQ)(args:List (D×Tag)):Prop:=d1 (λv o0=>dLst (λl=>oIs (λis=>is≠ []/\Q (.int (lmin is)) Jb) (dInts l)) v) args
def dbi(b:BI)(args:List (D×Tag))(Q:DQ):Prop:=
 match b with
 | .len=>d1 (λd o0=>oNat (λn=>Q (.int n) Jb) (dlen d)) args
 | .all=>d1 (λd o0=>dLst (λl=>oBs (λbs=>Q (.bool (bs.all id)) Jb) (gP l)) d) args
 | .sum=>d1 (λd o0=>dLst (λl=>oIs (λis=>Q (.int is.sum) Jb) (dInts l)) d) args
 | .int=>d1 (λd o0=>dBool (λx=>Q (.int (if x then 1 else 0)) Jb) d) args
 | .list=>d1 (λd t=>dList Q t d) args
 | .min=>dMin Q args
 | .sorted=>d1 (λd o0=>dLst (λl=>oIs (λis=>is.length<64/\∀j:List Int,j.Perm is->j.Pairwise (· <= ·)->Q (.list (j.map .int)) Jb) (dInts l)) d) args
 | .dict _=>d1 (λd o0=>dDct (λs l=>(s≠ []/\(∀k∈s,dB k=Jc)/\D.atoms l=Jc)/\Q (.dict s l) Jb) d) args
noncomputable def disi(G:Gx)(d:D)(ts:List String):Option Bool:=
 match d with
 | .none=>Ja Jd
 | .str _=>Ja Jd
 | .bool _=>Ja (ts.contains "bool"||ts.contains "int")
 | .int _=>Ja<|ts.contains "int"
 | .tup _=>Ja<|ts.contains "tuple"
 | .list _=>Ja<|ts.contains "list"
 | .exc c _=>if ts.all G.isCls then Ja (ts.any<|G.sub c) else Jb
 |_=>Jb
noncomputable def dexc:D->Bool
 | .exc .. =>Jc
 |_=>Jd
def disiG(G:Gx)(d:D)(ts:List String):Option Bool:=if stat ts||dexc d then disi G d ts else Jb
noncomputable def dS1(K:D->Prop):List D->Prop
 |[v]=>K v
 |_=>False
noncomputable def dS2(K:D->D->Prop):List D->Prop
 |[v,w]=>K v w
 |_=>False
theorem rx{K:D->Prop}(h:dS1 K l):∃v,l=[v]/\K v:=by
 rcases l with o0|⟨v,o0|⟨o0,o0⟩⟩<;>first|exact h.elim|exact⟨v,rfl,h⟩
theorem xi{K:D->D->Prop}(h:dS2 K l):X2 λv w=>l=[v,w]/\K v w:=by
 rcases l with o0|⟨v,o0|⟨w,o0|⟨o0,o0⟩⟩⟩<;>first|exact h.elim|exact⟨v,w,rfl,h⟩
def dsrc(k:IK)(vs:List D)(K:List D->Prop):Prop:=
 match k with
 | .val=>dS1 (λv=>dSeq K v) vs
 | .range=>dS1 (λv=>dInt (λn=>(-1000000<n/\n<=1000000)/\K ((Qc n.toNat).map λ(i:Nat)=> .int i)) v) vs
 | .zip=>dS2 (λa b=>dLst (λl=>dLst (λm=>K ((l.zip m).map λp=> .tup [p.1,p.2])) b) a) vs
noncomputable def dW:Tg->D->Bool->DRho->Option DRho
 | .name x,v,b,L=>Ja<|L.put x (v,b)
 | .tup s,.tup w,b,L=>if w.length=s.length then Ja (L.puts s w b) else Jb
 |_,_,_,_=>Jb
noncomputable def im(tg:Tg)(L:DRho):DRho:=(".0",Jb)::((tg.names.map λx=>(x,Jb))++L)
def bI(tg:Tg)(v:D)(L:DRho):Option DRho:=dW tg v Jd<|im tg L
noncomputable def dOR(K:DRho->Prop):Option DRho->Prop
 |some v=>K v
 |none=>False
theorem gZ{K:DRho->Prop}(h:dOR K o):Wit Ja o K:=by
 induction o with
 |none=>exact h.elim
 |some v=>exact⟨v,rfl,h⟩
noncomputable def dOD(K:D->Prop):Option D->Prop
 |some v=>K v
 |none=>False
theorem fY{K:D->Prop}(h:dOD K o):Wit Ja o K:=by
 induction o with
 |none=>exact h.elim
 |some v=>exact⟨v,rfl,h⟩
noncomputable def dOE(K:D×Bool->Prop):Option (D×Bool)->Prop
 |some v=>K v
 |none=>False
theorem dH{K:D×Bool->Prop}(h:dOE K o):Wit Ja o K:=by
 induction o with
 |none=>exact h.elim
 |some v=>exact⟨v,rfl,h⟩
noncomputable def i4:D->Bool
 | .hole=>Jc
 |_=>Jd
noncomputable def D.isNone:D->Bool
 | .none=>Jc
 |_=>Jd
def kc(f:List D->List D)(ok:Nat->Prop)(t:Tag)(Q:DQ):D->Prop
 | .list l=>Q (.list<|f l)<|tgl (f l) t
 |_=>False
noncomputable def dglob(Q:DQ):Option PV->Prop
 |some (.int i)=>Q (.int i) Jb
 |some (.str i)=>Q (.str i) Jb
 |_=>False
def tout(ns:List String)(ts:Tag):Tag->Tag
 |none=>Jb
 |some s=>tj (Ja (s.filter λx=> !ns.contains x)) ts
noncomputable def dcomp(tg:Tg)(L:DRho)(ts:Tag)(tst:DRho->(Bool->Prop)->Prop)(el:DRho->DQ->Prop):List D->List D->Tag->(List D->Tag->Prop)->Prop
 |[],a,t,K=>K a t
 |x::s,a,t,K=>dOR (λP=>tst P λb=>cond b (el P λd u=>dcomp tg L ts tst el s (a++[d]) (tj t (tout tg.names ts u)) K) (dcomp tg L ts tst el s a t K)) (bI tg x L)
def dget(t:Tag)(Q:DQ):Option D->Prop
 |some d=>Q d<|tg0 d t
 |none=>Q (.list []) Jb
noncomputable def dfld(G:Gx)(f:String):D->Option D
 | .exc c l=>((G.flds c).idxOf? f).bind λj=>l[j]?
 | .inst l=>((G.flds "Bounds").idxOf? f).bind λj=>l[j]?
 |_=>Jb
noncomputable def dIns:D->Prop
 | .inst _=>True
 |_=>False
mutual
noncomputable def dwe(G:Gx)(cl:DCl):E->DRho->DQ->DX->Prop
 | .none,_,Q,_=>Q .none Jb
 | .bool b,_,Q,_=>Q (.bool b) Jb
 | .int i,_,Q,_=>Q (.int i) Jb
 | .str s,_,Q,_=>Q (.str s) Jb
 | .loc x,Δ,Q,_=>dOE (λp=>Q p.1 (tg0 p.1 (Ja [x]))) (Δ.get x)
 | .glob x,_,Q,_=>dglob Q<|G.glob x
 | .bin op a b,Δ,Q,X=>dwe G cl a Δ (λva ta=>dwe G cl b Δ (λvb tb=>dbin op va vb ta tb Q) X) X
 | .not_ a,Δ,Q,X=>dwe G cl a Δ (λv o0=>dBool (λb=>Q (.bool !b) Jb) v) X
 | .and_ a b,Δ,Q,X=>dwe G cl a Δ (λv o0=>dBool (λb'=>cond b' (dwe G cl b Δ Q X) (Q (.bool Jd) Jb)) v) X
 | .or_ a b,Δ,Q,X=>dwe G cl a Δ (λv o0=>dBool (λb'=>cond b' (Q (.bool Jc) Jb) (dwe G cl b Δ Q X)) v) X
 | .isNone a,Δ,Q,X=>dwe G cl a Δ (λv o0=>i4 v=Jd/\Q (.bool v.isNone) Jb) X
 | .notNone a,Δ,Q,X=>dwe G cl a Δ (λv o0=>i4 v=Jd/\Q (.bool !v.isNone) Jb) X
 | .cmp op a b,Δ,Q,X=>dwe G cl a Δ (λva o0=>dwe G cl b Δ (λvb o0=>dcmp op va vb λr=>Q (.bool r) Jb) X) X
 | .cmp2 a o1 b o2 c,Δ,Q,X=>dwe G cl a Δ (λva o0=>dwe G cl b Δ (λvb o0=>dcmp o1 va vb λr=>
   cond r (dwe G cl c Δ (λvc o0=>dcmp o2 vb vc λr=>Q (.bool r) Jb) X) (Q (.bool Jd) Jb)) X) X
 | .tup l,Δ,Q,X=>dwes G cl l Δ (λvs=>dtup (fsts vs) (tjs vs) Q) X
 | .list l,Δ,Q,X=>dwes G cl l Δ (λvs=>dnew (fsts vs) (tjs vs) Q) X
 | .sub a i,Δ,Q,X=>dwe G cl a Δ (λva ta=>dwe G cl i Δ (λvi o0=>dOD (λv=>Q v (tg0 v ta)) (dsub va vi)) X) X
 | .upto a hi,Δ,Q,X=>dwe G cl a Δ (λva ta=>dwe G cl hi Δ (λvi o0=>dInt (λk=>kc (λl=>l.take (cut l.length k)) (λn=>0<=k/\k<n) ta Q va) vi) X) X
 | .from_ a lo,Δ,Q,X=>dwe G cl a Δ (λva ta=>dwe G cl lo Δ (λvi o0=>dInt (λk=>kc (λl=>l.drop (cut l.length k)) (λn=>1<=k/\k<=n) ta Q va) vi) X) X
 | .comp elt tg k it,Δ,Q,X=>(k.isZ=Jd\/G.calm=Jc)/\dwes G cl it Δ (λvs=>dsrc k (fsts vs) λxs=>
   dcomp tg Δ (tjs vs) (λo0 K=>K Jc) (λΔ' K=>dwe G cl elt Δ' K λo0 o0=>False) xs [] Jb λacc t=>Q (.list acc) t) X
 | .compIf elt tg k it cond,Δ,Q,X=>(k.isZ=Jd\/G.calm=Jc)/\dwes G cl it Δ (λvs=>dsrc k (fsts vs) λxs=>
   dcomp tg Δ (tjs vs) (λΔ' K=>dwe G cl cond Δ' (λv o0=>dBool K v) λo0 o0=>False) (λΔ' K=>dwe G cl elt Δ' K λo0 o0=>False) xs [] Jb λacc t=>Q (.list acc) t) X
 | .call f args,Δ,Q,X=>G.fn f=Jc/\dwes G cl args Δ (λvs=>cl f (flags vs) (λd b=>Q d (tg0 d (cond b Jb (tj (Ja []) (tjs vs))))) X) X
 | .bi b args,Δ,Q,X=>(b.quiet=Jc\/G.calm=Jc)/\dwes G cl args Δ (λvs=>dbi b vs Q) X
 | .isi a ts,Δ,Q,X=>((ts.length=1/\∀t∈ts,t∈ ["int","bool","list","tuple","dict"])\/G.full=Jc)/\dwe G cl a Δ (λv o0=>oB (λb=>Q (.bool b) Jb) (disiG G v ts)) X
 | .meth ..,_,_,_=>False
 | .dict0,_,Q,_=>G.full=Jc/\Q (.dict [] []) Jb
 | .get a k,Δ,Q,X=>dwe G cl a Δ (λva ta=>dDct (λks l=>dwe G cl k Δ (λvk o0=>oK (λk=>dget ta Q (dlook ks l k)) (keyD vk)) X) va) X
 | .sd ..,_,_,_=>False
 | .attr x f,Δ,Q,_=>dOE (λp=>dOD (λd=>Q d (tg0 d (Ja [x]))) (dfld G f p.1)) (Δ.get x)
 | .cnt ix a,Δ,Q,X=>dwe G cl a Δ (λva o0=>dLst (λl=>oBs (λbs=>wcnt ix bs λi=>Q (.int i) Jb) (gP l)) va) X
 | .mcall f o args,Δ,Q,X=>G.fn f=Jc/\dwe G cl o Δ (λdr tr=>dIns dr/\dwes G cl args Δ (λvs=>cl f (flags ((dr,tr)::vs)) (λd b=>Q d (tg0 d (cond b Jb (tj (Ja []) (tjs ((dr,tr)::vs)))))) X) X) X
noncomputable def dwes(G:Gx)(cl:DCl):List E->DRho->(List (D×Tag)->Prop)->DX->Prop
 |[],_,Q,_=>Q []
 |e::es,Δ,Q,X=>dwe G cl e Δ (λv t=>dwes G cl es Δ (λvs=>Q ((v,t)::vs)) X) X
end
noncomputable abbrev Disj(F G:List Jg):Prop:=∀a∈F,a∉G
structure PartOK(σ:PH)(fp:String->List Jg)(t:Tag)(F:List Jg):Prop where
 own:t=Jb->F.Nodup/\∀a∈F,σ a=Jb
 al:∀xs,t=Ja xs->∀a∈F,σ a=Jb\/∃x∈xs,a∈fp x
structure ER(σ:PH)(fp:String->List Jg)(σ':PH)(d:D)(t:Tag)(v:PV)(F:List Jg):Prop where
 rd:RdF σ' d v F
 ext:Ext σ σ'
 part:PartOK σ fp t F
noncomputable def fset(f:String->List Jg)(x:String)(F:List Jg):String->List Jg:=λy=>if y=x then F else f y
theorem c6{f:String->List Jg}:fset f x F x=F:=Uh rfl
theorem ct{f:String->List Jg}(h:y≠x):fset f x F y=f y:=Ug h
structure EnvE(σ:PH)(Δ:DRho)(ρ:Rho)(fp:String->List Jg):Prop where
 at_:∀x d b,Δ.get x=Ja (d,b)->∃v,ρ.get x=Ja v/\RdF σ d v (fp x)
 dom:∀x,∀a∈fp x,∃l:MO,σ a=Ja l.1
 keys:Δ.map (·.1)=ρ.map (·.1)
theorem EnvE.ext{f:String->List Jg}(h:EnvE σ j L f)(x:Ext σ σ'):EnvE σ' j L f:=⟨λy d b e=>by obtain⟨v,N,p⟩:=h.at_ y d b e;exact⟨v,N,p.ext x⟩,λy a T=>by obtain⟨l,e⟩:=h.dom y a T;exact⟨l,x a _ e⟩,h.keys⟩
theorem Ext.new(x:Ext σ σ')(h:σ' a=Jb):σ a=Jb:=by
 induction e:σ a with
 |none=>rfl
 |some o=>exact sn<|(x a o e).symm.trans h
theorem PartOK.nil{f:String->List Jg}:PartOK σ f t []:=⟨λo0=>⟨.nil,λa h=>(bQ h)⟩,λx o0 a h=>(bQ h)⟩
theorem PartOK.from{f:String->List Jg}(h:PartOK σ1 f t F)(x:Ext σ σ1):PartOK σ f t F:=
 ⟨λe=>⟨(h.own e).1,λa T=>x.new<|(h.own e).2 a T⟩,λs e a T=>(h.al s e a T).imp_left x.new⟩
theorem ER.from{f:String->List Jg}{d:D}(h:ER σ1 f σ' d t v F)(x:Ext σ σ1):ER σ f σ' d t v F:=⟨h.rd,x.trans h.ext,h.part.from x⟩
theorem ER.at0{f:String->List Jg}{d:D}(x:Ext σ σ')(r:RdF σ' d v []):ER σ f σ' d t v []:=⟨r,x,.nil⟩
theorem PartOK.tg0{f:String->List Jg}{d:D}(h:PartOK σ f t F)(r:RdF σ' d v F):PartOK σ f (tg0 d t) F:=by
 unfold Vl.Internal.tg0
 induction e:d.atom with
 |true=>rw[r.atom e];exact .nil
 |false=>exact h
theorem PartOK.tgl{f:String->List Jg}{d:List D}(h:PartOK σ f t F)(r:RdFs σ' d v F):PartOK σ f (tgl d t) F:=by
 unfold Vl.Internal.tgl
 induction e:D.atoms d with
 |true=>rw[r.atom e];exact .nil
 |false=>exact h
theorem np(h:tj a b=Jb):a=Jb/\b=Jb:=by
 induction a with
 |none=>exact⟨rfl,h⟩
 |some x=>rcases b with⟨⟩<;>exact sn h
theorem ub(h:tj a b=Ja xs):(∀ys,a=Ja ys->∀y∈ys,y∈xs)/\(∀ys,b=Ja ys->∀y∈ys,y∈xs):=by
 induction a with
 |none=>exact⟨λys e=>(ns e),λys e y W=>by cases h.symm.trans e;exact W⟩
 |some x=>induction b with
  |none=>obtain rfl:=sj h;exact⟨λys e y W=>by obtain rfl:=sj e;exact W,λys e=>(ns e)⟩
  |some y=>obtain rfl:=sj h;exact⟨λys e z v=>by obtain rfl:=sj e;exact Qj _ v,λys e z v=>by obtain rfl:=sj e;exact Qe _ v⟩
theorem PartOK.wide{f:String->List Jg}(h:PartOK σ f t F)(k:∀ys,t=Ja ys->∀y∈ys,y∈xs):PartOK σ f (Ja xs) F:=
 ⟨λe=>(sn e),λzs e a T=>by
  obtain rfl:=sj e
  induction W:t with
  |none=>exact .inl<|(h.own W).2 a T
  |some ys=>exact(h.al ys W a T).imp_right λz=>by obtain⟨x,hx,w⟩:=z;exact⟨x,k ys W x hx,w⟩⟩
theorem PartOK.join{f:String->List Jg}(h:PartOK σ f s F)(k:PartOK σ f t G)(d:s=Jb->t=Jb->Disj F G):PartOK σ f (tj s t) (F++G):=by
 refine⟨λe=> ?_,λx e a T=> ?_⟩
 ·obtain⟨p,w⟩:=np e;refine⟨Qv.mpr ⟨(h.own p).1,(k.own w).1,λa T b R q=>d p w a T<|q▸R⟩,λa T=> ?_⟩
  rcases Qr.mp T with T|T
  ·exact(h.own p).2 a T
  ·exact(k.own w).2 a T
 ·obtain⟨c,m⟩:=ub e
  rcases Qr.mp T with T|T
  ·exact(h.wide c).al x rfl a T
  ·exact(k.wide m).al x rfl a T
theorem PartOK.sub{f:String->List Jg}{F G:List Jg}(h:PartOK σ f t F)(s:G.Sublist F):PartOK σ f t G:=
 ⟨λe=>⟨(h.own e).1.sublist s,λa T=>(h.own e).2 a (s.subset T)⟩,λx e a T=>h.al x e a<|s.subset T⟩
theorem PartOK.cons{fp:String->List Jg}(h:PartOK σ fp t F)(ha:σ a=Jb)(hf:a∉F):PartOK σ fp t (a::F):=
 ⟨λe=>⟨Qz.mpr ⟨hf,(h.own e).1⟩,λb hb=>by cases hb with|head=>exact ha|tail _ hb=>exact(h.own e).2 b hb⟩,
  λxs e b hb=>by cases hb with|head=>exact .inl ha|tail _ hb=>exact h.al xs e b hb⟩
inductive ERs(σ:PH)(fp:String->List Jg)(σ':PH):List (D×Tag)->List PV->List (List Jg)->Prop
 |nil:ERs σ fp σ' [] [] []
 |cons {d:D} {t:Tag} {v:PV} {F:List Jg} {ds:List (D×Tag)} {vs:List PV} {Fs:List (List Jg)}:RdF σ' d v F->PartOK σ fp t F->
   (∀p∈ds.zip Fs,(t=Option.none\/p.1.2=Option.none)->Disj F p.2)->ERs σ fp σ' ds vs Fs->ERs σ fp σ' ((d,t)::ds) (v::vs) (F::Fs)
theorem ERs.rds{f:String->List Jg}{F:List (List Jg)}(h:ERs σ f σ' ds vs F):RdFs σ' (fsts ds) vs F.flatten:=by
 induction h with
 |nil=>exact⟨rfl,rfl⟩
 |cons r p q h i=>exact⟨_,_,_,_,rfl,rfl,r,i⟩
theorem ERs.lens{f:String->List Jg}{ds:List (D×Tag)}{vs:List PV}{F:List (List Jg)}(h:ERs σ f σ' ds vs F):vs.length=ds.length/\F.length=ds.length:=by
 induction h with
 |nil=>exact⟨rfl,rfl⟩
 |cons r p q h i=>exact⟨Uk (· +1) i.1,Uk (· +1) i.2⟩
theorem ERs.part{f:String->List Jg}{s:List (List Jg)}(h:ERs σ f σ' ds vs s):PartOK σ f (tjs ds) s.flatten:=by
 induction h with
 |nil=>exact .nil
 |@cons d t v F ds vs s r p q h W=>
  refine p.join W λe w a T b=> ?_;obtain⟨G,C,b⟩:=List.mem_flatten.mp b;obtain⟨i,V,rfl⟩:=Wh C;have l:=h.lens.2;exact q (ds[i],s[i]) (List.mem_iff_getElem.mpr ⟨i,by rw[List.length_zip];exact Nat.lt_min.mpr ⟨zq V l,V⟩,List.getElem_zip⟩) (.inl e) a T b
def jt(O:List Jg)(σ σ':PH):Prop:=∀a o,σ a=Ja o->a∉O->σ' a=Ja o
structure ResOK(σ:PH)(O As:List Jg)(σ':PH)(d:D)(b:Bool)(v:PV)(F:List Jg):Prop where
 rd:RdF σ' d v F
 kept:jt O σ σ'
 own:b=Jc->F.Nodup/\∀a∈F,σ a=Jb\/a∈O
 al:∀a∈F,σ a=Jb\/a∈As
structure ResX(σ:PH)(O:List Jg)(σ':PH)(ds:List D)(ws:List PV)(F:List Jg):Prop where
 rd:RdFs σ' ds ws F
 kept:jt O σ σ'
 nd:F.Nodup
 own:∀a∈F,σ a=Jb\/a∈O
structure XOK(σ σ':PH)(ds:List D)(ws:List PV)(F:List Jg):Prop where
 rd:RdFs σ' ds ws F
 ext:Ext σ σ'
 nd:F.Nodup
 own:∀a∈F,σ a=Jb
theorem XOK.from{ws:List PV}(h:XOK σ1 σ' ds ws F)(x:Ext σ σ1):XOK σ σ' ds ws F:=⟨h.rd,x.trans h.ext,h.nd,λa T=>x.new (h.own a T)⟩
inductive ArgsR(σ:PH):List (D×Bool)->List PV->List (List Jg)->Prop
 |nil:ArgsR σ [] [] []
 |cons {d:D} {b:Bool} {v:PV} {F:List Jg} {ds:List (D×Bool)} {vs:List PV} {Fs:List (List Jg)}:RdF σ d v F->(b=Jc->F.Nodup)->
   (∀p∈ds.zip Fs,(b=Jc\/p.1.2=Jc)->Disj F p.2)->ArgsR σ ds vs Fs->ArgsR σ ((d,b)::ds) (v::vs) (F::Fs)
noncomputable def owned:List (D×Bool)->List (List Jg)->List Jg
 |(_,b)::d,F::s=>(if b then F else [])++owned d s
 |_,_=>[]
def zm(cv:Cl)(f:String)(args:List (D×Bool))(Q:D->Bool->Prop)(X:DX):Prop:=∀ (t:PH) (w:List PV) (s:List (List Jg)) (r:Post) (H:XPost),ArgsR t args w s->
 (∀d b v T F,Q d b->ResOK t (owned args s) s.flatten T d b v F->r v T)->(∀c z ws T F,X c z->ResX t (owned args s) T z ws F->H ⟨c,ws⟩ T)->cv f w t r H
structure IoOK(σ:PH)(O:List Jg)(σ':PH)(d:D)(v:PV)(F:List Jg):Prop where
 rd:RdF σ' d v F
 nd:F.Nodup
 own:∀a∈F,σ a=Jb\/a∈O
 kept:jt O σ σ'
def yY(cv:Cl)(f:String)(i:Nat)(args:List (D×Bool))(Q:D->Prop):Prop:=∀ (t:PH) (s:List PV) (w:List (List Jg)) (r:Post) (H:XPost) (v:PV),ArgsR t args s w->s[i]? =Ja v->
 (∀d X F,Q d->IoOK t (owned args w) X d v F->r .none X)->cv f s t r H
noncomputable def aR(cv:Cl):DCl:=⟨zm cv,yY cv⟩
theorem ERs.args{f:String->List Jg}(h:ERs σ f σ' ds vs s):ArgsR σ' (flags ds) vs s:=by
 induction h with
 |nil=>exact .nil
 |@cons d t v F ds vs s r p q h i=>
  refine .cons r (λe=>(p.own<|Ke.mp e).1) (λx hx e=> ?_) i;rw[List.zip_map_left] at hx;obtain⟨y,W,rfl⟩:=Ql.mp hx;exact q y W<|e.imp Ke.mp Ke.mp
theorem ERs.owned{f:String->List Jg}(h:ERs σ f σ' ds vs s):∀a∈owned (flags ds) s,σ a=Jb:=by
 induction h with
 |nil=>intro a T;cases T
 |@cons d t v F ds vs s r p q h i=>
  intro a T
  rcases Qr.mp (show a∈(if t.isNone then F else [])++Vl.Internal.owned (flags ds) s from T) with T|T
  ·induction t with
   |none=>exact(p.own rfl).2 a T
   |some x=>cases T
  ·exact i a T
section
variable(G:Gx)(cv:Cl)
def DOK(e:E):Prop:=∀ (j:DRho) (L:Rho) (f:String->List Jg) (W:PH) (Q:DQ) (X:DX) (r:Post) (H:XPost),EnvE W j L f->dwe G (aR cv) e j Q X->
 (∀d t v T F,Q d t->ER W f T d t v F->r v T)->(∀c s ws T F,X c s->XOK W T s ws F->H ⟨c,ws⟩ T)->we G cv e L W r H
def DOKs(es:List E):Prop:=∀ (j:DRho) (L:Rho) (f:String->List Jg) (t:PH) (Q:List (D×Tag)->Prop) (X:DX) (r:List PV->PH->Prop) (H:XPost),EnvE t j L f->dwes G (aR cv) es j Q X->
 (∀d v T s,Q d->Ext t T->ERs t f T d v s->r v T)->(∀c d ws T F,X c d->XOK t T d ws F->H ⟨c,ws⟩ T)->wes G cv es L t r H
end
noncomputable abbrev keysD(L:DRho):List String:=L.map (·.1)
noncomputable abbrev keysR(L:Rho):List String:=L.map (·.1)
theorem DRho.get_put_ne(h:y≠x):∀ (L:DRho),(L.put x v).get y=L.get y
 |[]=>rfl
 |(z,o)::r=>by
  by_cases T:z=x
  ·have:z≠y:=λq=>h<|q.symm.trans T;simp only[DRho.put_if,T,if_true,DRho.get_if];rw[Ug (λq=>h q.symm),Ug (λq=>h q.symm)]
  ·simp only[DRho.put_if,T,if_false,DRho.get_if,DRho.get_put_ne h r]
theorem DRho.get_put:∀ (L:DRho),x∈keysD L->(L.put x v).get x=Ja v
 |(z,o)::r,h=>by
  by_cases T:z=x
  ·simp only[DRho.put_if,T,if_true,DRho.get_if]
  ·simp only[DRho.put_if,T,if_false,DRho.get_if];exact DRho.get_put r<|by simpa [Ne.symm T] using h
theorem DRho.get_mem:∀ (L:DRho),L.get x=Ja v->x∈keysD L
 |(z,o)::r,h=>by
  by_cases T:z=x
  ·subst T;exact .head _
  ·simp only[DRho.get_if,T,if_false] at h;exact .tail _<|DRho.get_mem r h
theorem DRho.put_keys:∀ (L:DRho),keysD (L.put x v)=keysD L
 |[]=>rfl
 |(z,o)::r=>by
  by_cases h:z=x
  ·simp only[DRho.put_if,h,if_true,keysD,Qo]
  ·simp only[DRho.put_if,h,if_false,keysD,Qo];exact Uk _<|DRho.put_keys r
theorem Rho.gput_ne(h:y≠x):∀ (L:Rho),(L.put x v).get y=L.get y
 |[]=>rfl
 |(z,o)::r=>by
  by_cases T:z=x
  ·simp only[Rho.put_c,T,if_true,Rho.get_c];rw[Ug (λq=>h q.symm),Ug (λq=>h q.symm)]
  ·simp only[Rho.put_c,T,if_false,Rho.get_c,Rho.gput_ne h r]
theorem Rho.gput:∀ (L:Rho),x∈keysR L->(L.put x v).get x=Ja v
 |(z,o)::r,h=>by
  by_cases T:z=x
  ·simp only[Rho.put_c,T,if_true,Rho.get_c]
  ·simp only[Rho.put_c,T,if_false,Rho.get_c];exact Rho.gput r<|by simpa [Ne.symm T] using h
theorem Rho.put_keys:∀ (L:Rho),keysR (L.put x v)=keysR L
 |[]=>rfl
 |(z,o)::r=>by
  by_cases h:z=x
  ·simp only[Rho.put_c,h,if_true,keysR,Qo]
  ·simp only[Rho.put_c,h,if_false,keysR,Qo];exact Uk _<|Rho.put_keys r
theorem EnvE.put{L:DRho}{A:Rho}{f:String->List Jg}(h:EnvE σ L A f){d:D}(r:RdF σ d v F):
  EnvE σ (L.put x (d,b)) (A.put x v) (fset f x F):=by
 refine⟨λy X c e=> ?_,λy a T=> ?_,(DRho.put_keys _).trans (h.keys.trans (Rho.put_keys _).symm)⟩
 rotate_left
 ·by_cases W:y=x
  ·subst W;rw[c6] at T;exact r.dom a T
  ·rw[ct W] at T;exact h.dom y a T
 by_cases W:y=x
 ·subst W;rw[c6];have m:y∈keysD L:=by
   have:=DRho.get_mem _ e
   rwa [DRho.put_keys] at this
  rw[DRho.get_put _ m] at e;cases e;exact⟨v,Rho.gput _<|by rw[show keysR A=keysD L from h.keys.symm];exact m,r⟩
 ·rw[ct W];rw[DRho.get_put_ne W] at e;rw[Rho.gput_ne W];exact h.at_ y X c e
theorem EnvE.puts:∀ (xs:List String) (ds:List D) (vs:List PV) (F:List Jg) (Δ:DRho) (ρ:Rho) (fp:String->List Jg),EnvE σ Δ ρ fp->xs.length=ds.length->RdFs σ ds vs F->
  vs.length=xs.length/\∃fp',EnvE σ (Δ.puts xs ds b) (ρ.puts xs vs) fp'/\keysD (Δ.puts xs ds b)=keysD Δ/\∀y a,a∈fp' y->(y∈xs/\a∈F)\/(y∉xs/\a∈fp y):=by
 intro xs
 induction xs with
 |nil=>
  intro ds vs F Δ ρ fp h hl r
  induction ds using List.casesOn with
  |cons=>cases hl
  |nil=>
   obtain⟨rfl,rfl⟩:=r;exact⟨rfl,fp,h,rfl,λy a ha=> .inr ⟨Ki,ha⟩⟩
 |cons x xs ih=>
  intro ds vs F Δ ρ fp h hl rr0
  induction ds using List.casesOn with
  |nil=>cases hl
  |cons d ds=>
   obtain⟨p,ps,F1,F2,e1,e2,r1,r2⟩:=rr0;subst e1 e2;obtain⟨l1,fp',h1,h3,h4⟩:=ih ds ps F2 _ _ _ (h.put (b:=b) r1) (Nat.succ.inj hl) r2;refine⟨Uk (· +1) l1,fp',h1,h3.trans<|DRho.put_keys _,λy a ha=> ?_⟩
   rcases h4 y a ha with⟨q1,q2⟩|⟨q1,q2⟩
   ·exact .inl ⟨.tail _ q1,Qe _ q2⟩
   ·by_cases hy:y=x
    ·rw[hy,c6] at q2;exact .inl ⟨hy▸ .head _,Qj _ q2⟩
    ·rw[ct hy] at q2;exact .inr ⟨λm=>by cases m with|head=>exact hy rfl|tail _ m=>exact q1 m,q2⟩
theorem EnvE.bindT{tg:Tg}{d:D}{p:String->List Jg}(h:EnvE σ L A p)(r:RdF σ d v F)(e:dW tg d b L=Ja P):
  X2 λρ' f=>A4 (bindT tg v A=Ja ρ') (EnvE σ P ρ' f) (keysD P=keysD L) (∀y a,a∈f y->(y∈tg.names/\a∈F)\/(y∉tg.names/\a∈p y)):=by
 induction tg with
 |name x=>
  obtain rfl:=sj e;refine⟨_,_,rfl,h.put r,DRho.put_keys _,λy a T=> ?_⟩;by_cases W:y=x
  ·rw[W,c6] at T;exact .inl ⟨W▸ .head _,T⟩
  ·rw[ct W] at T;exact .inr ⟨λm=>W<|Qk.mp m,T⟩
 |tup s=>
  induction d using D.casesOn with
  |tup z=>
   obtain⟨l,rfl,H,r⟩:=r;by_cases q:z.length=s.length
   ·have g:Ja (L.puts s z b)=Ja P:=by rw[<-e];exact(Uh q).symm
    obtain rfl:=sj g;obtain⟨U,f,N,J,w⟩:=EnvE.puts (b:=b) s z l F L A p h q.symm r;exact⟨_,f,Uh U,N,J,w⟩
   ·have g:Jb=Ja P:=by rw[<-e];exact(Ug q).symm
    exact ns g
  |_=>first|exact bnx e|exact onx e|cases e
theorem DRho.get_app:∀ (xs:List String) (Δ:DRho),DRho.get ((xs.map λx=>(x,Option.none))++Δ) y=Ja q->y∉xs/\Δ.get y=Ja q
 |[]=>λΔ e=>⟨Ki,e⟩
 |x::xs=>λΔ e=>by
  by_cases hx:x=y
  ·simp[DRho.get_if,hx] at e
  ·simp only[Qo,List.cons_append,DRho.get_if,hx,if_false] at e;obtain⟨h1,h2⟩:=DRho.get_app xs Δ e;exact⟨λm=>by cases m with|head=>exact hx rfl|tail _ m=>exact h1 m,h2⟩
theorem Rho.get_app:∀ (xs:List String) (L:Rho),y∉xs->Rho.get ((xs.map λx=>(x,Option.none))++L) y=L.get y
 |[]=>λL e=>rfl
 |x::xs=>λL e=>by
  have hx:x≠y:=λq=>e<|q▸ .head _;simp only[Qo,List.cons_append,Rho.get_c,hx,if_false];exact Rho.get_app xs L λm=>e<|.tail _ m
theorem EnvE.bindC{tg:Tg}{d:D}{p:String->List Jg}(h:EnvE σ j L p)(r:RdF σ d v F)(e:bI tg d j=Ja P):
  X2 λρ' f=>A3 (bindC tg v L=Ja ρ') (EnvE σ P ρ' f) (∀y a,a∈f y->(y∈tg.names/\a∈F)\/(y∉tg.names/\a∈p y)):=by
 have k:keysD (im tg j)=keysR (blank tg L):=by
  simp only[keysD,keysR,im,blank,Qo,QF,QB];rw[show KM (λx=>x.fst) j=KM (λx=>x.fst) L from h.keys];rfl
 have i:EnvE σ (im tg j) (blank tg L) p:=by
  refine⟨λy d b e=> ?_,h.dom,k⟩;by_cases W:".0"=y
  ·simp[im,DRho.get_if,W] at e
  ·simp only[im,DRho.get_if,W,if_false] at e;obtain⟨N,Y⟩:=DRho.get_app _ _ e;obtain⟨v,J,w⟩:=h.at_ y d b Y;refine⟨v,?_,w⟩;simp only[blank,Rho.get_c,W,if_false];rw[Rho.get_app _ _ N];exact J
 obtain⟨ρ',f,N,Y,o0,w⟩:=i.bindT r e;exact⟨ρ',f,N,Y,w⟩
mutual
theorem RdF.py:∀ {d:D} {n:Nat} {v:PV} {F:List Jg},RdF σ d v F->d.okd n=Jc->Rd σ d.py v/\d.py.canLay0=Jc/\d.py.depth<=n
 | .none,_,_,_,r,_=>⟨r.1,rfl,QY _⟩
 | .bool _,_,_,_,r,_=>⟨r.1,rfl,QY _⟩
 | .int _,_,_,_,r,_=>⟨r.1,rfl,QY _⟩
 | .str _,n,_,_,r,h=>⟨⟨_,r.1,rfl⟩,by rcases n with⟨⟩<;>exact h,QY _⟩
 | .tup l,n,_,_,r,h=>by
  induction n using Nat.casesOn with
  |zero=>exact bnx h
  |succ n=>
   obtain⟨vs,N,o0,Y⟩:=r;obtain⟨k,U,V⟩:=RdFs.py Y (show D.okds n l=Jc from h);exact⟨⟨vs,N,k⟩,U,KP V⟩
 | .list l,n,_,_,r,h=>by
  induction n using Nat.casesOn with
  |zero=>exact bnx h
  |succ n=>
   obtain⟨a,vs,o0,N,Y,o0,o0,J⟩:=r;obtain⟨k,U,V⟩:=RdFs.py J (show D.okds n l=Jc from h);exact⟨⟨a,vs,N,Y,k⟩,U,KP V⟩
 | .scr _,n,_,_,_,h=>by rcases n with⟨⟩<;>exact bnx h
 | .hole,n,_,_,_,h=>by rcases n with⟨⟩<;>exact bnx h
 | .exc _ _,n,_,_,_,h=>by rcases n with⟨⟩<;>exact bnx h
 | .inst _,n,_,_,_,h=>by rcases n with⟨⟩<;>exact bnx h
 | .dict _ _,n,_,_,_,h=>by rcases n with⟨⟩<;>exact bnx h
theorem RdFs.py:∀ {ds:List D} {n:Nat} {l:List PV} {F:List Jg},RdFs σ ds l F->D.okds n ds=Jc->Rds σ (D.pys ds) l/\PyData.canLayAll0 (D.pys ds)=Jc/\PyData.depthAll (D.pys ds)<=n
 |[],_,_,_,r,_=>⟨r.1,rfl,QY _⟩
 |d::ds,n,_,_,r,h=>by
  obtain⟨p,ps,o0,o0,N,o0,Y,J⟩:=r;obtain⟨T,e⟩:=Qh.mp (show(D.okd n d&&D.okds n ds)=Jc from h);obtain⟨k,U,V⟩:=RdF.py Y T;obtain⟨c,M,m⟩:=RdFs.py J e;exact⟨⟨p,ps,N,k,c⟩,Qh.mpr ⟨U,M⟩,Nat.max_le.mpr ⟨V,m⟩⟩
end
theorem BF{d:D}(r:RdF σ d v F)(h:kaD d=Ja k):kaOf v=Ja k:=by
 induction d using D.casesOn with
 |int i=>rw[r.1];exact h
 |str i=>rw[r.1];exact h
 |_=>first|exact bnx h|exact onx h|cases h
theorem tq:∀ {ds:List D} {l:List PV} {F:List Jg} {k:List KA},RdFs σ ds l F->kasD ds=Ja k->kasOf l=Ja k
 |[],_,_,_,r,h=>by rw[r.1];exact h
 |d::ds,_,_,k,r,h=>by
  obtain⟨p,s,o0,o0,N,o0,Y,J⟩:=r;obtain⟨a,T,h⟩:=Qn.mp (show((kaD d).bind λk=>(kasD ds).map (k:: ·))=Ja k from h);obtain⟨b,e,rfl⟩:=Qu.mp h;rw[N];show((kaOf p).bind λk=>(kasOf s).map (k:: ·))=_;rw[BF Y T,tq J e];rfl
theorem nR{d:D}(r:RdF σ d v F)(h:keyD d=Ja k):keyOf v=Ja k:=by
 induction d using D.casesOn with
 |tup l=>obtain⟨m,rfl,o0,r⟩:=r;exact tq r h
 |_=>first|exact bnx h|exact onx h|cases h
theorem uX{d:D}{K K':List KA->Prop}(r:RdF σ d v F)(h:oK K (keyD d))(k:∀x,K x->K' x):oK K' (keyOf v):=by
 obtain⟨x,e,h⟩:=i3 h;rw[nR r e];exact k x h
theorem vO:∀k:List KA,RdFs σ (k.map KA.d) (k.map KA.pv) []
 |[]=>⟨rfl,rfl⟩
 |a::k=>⟨_,_,[],[],rfl,rfl,by rcases a with⟨⟩<;>exact⟨rfl,rfl⟩,vO k⟩
section
variable{σ σ1 σ2 σ':PH}{fp:String->List Jg}{Δ:DRho}{ρ:Rho}
theorem PartOK.apart(f:∀x,∀a∈fp x,∃l:MO,σ a=Ja l.1)(M:Ext σ σ1)(Y:PartOK σ fp k F)(d:∀a∈F,∃l:MO,σ1 a=Ja l.1)(p:PartOK σ1 fp t b)(h:k=Jb\/t=Jb):Disj F b:=λa T R=>by
 obtain⟨l,e⟩:=d a T
 induction t with
 |none=>have:=(p.own rfl).2 a R;exact sn<|e.symm.trans this
 |some s=>
  have n:=(Y.own<|h.resolve_right λq=>by exact sn q).2 a T
  rcases p.al s rfl a R with q|⟨x,o0,q⟩
  ·exact sn<|e.symm.trans q
  ·obtain⟨K,g⟩:=f x a q;exact ns<|n.symm.trans g
theorem dG{t:Tag}{ds:List D}{l:List PV}{F:List Jg}{Q:DQ}{Q':Post}(x:Ext σ σ')(r:RdFs σ' ds l F)(H:l.length<=lim)(p:PartOK σ fp t F)(q:Q (.list ds) t)
  (k:∀d t v σ' F,Q d t->ER σ fp σ' d t v F->Q' v σ'):wnew (.list l) σ' Q':=λa T=>by
 refine k _ _ _ _ (a::F) q ⟨⟨a,l,F,rfl,PH.set_same _ _ _,H,rfl,r.ext<|Ext.set T _⟩,x.trans<|Ext.set T _,p.cons (x.new T) λh=> ?_⟩;obtain⟨K,e⟩:=r.dom a h;exact ns<|T.symm.trans e
theorem RdFs.app{d e:List D}:∀ {l:List PV} {F:List Jg},RdFs σ d l F->RdFs σ e m G->RdFs σ (d++e) (l++m) (F++G):=by
 induction d with
 |nil=>intro l F h k;obtain⟨rfl,rfl⟩:=h;exact k
 |cons d f i=>
  intro l F h k;obtain⟨p,s,j,q,N,Y,J,w⟩:=h;subst N Y;exact⟨p,s++m,j,q++G,rfl,KI _ _ _,J,i w k⟩
theorem RdFs.len{d:List D}:∀ {l:List PV} {F:List Jg},RdFs σ d l F->l.length=d.length:=by
 induction d with
 |nil=>intro l F h;rw[h.1];rfl
 |cons d f i=>intro l F h;obtain⟨p,s,j,q,N,Y,J,w⟩:=h;rw[N];exact Uk (· +1)<|i w
theorem xy(xs:List String)(t:Tag):∃ys,tj (Ja xs) t=Ja ys/\∀zs,t=Ja zs->∀z∈zs,z∈ys:=by
 induction t with
 |none=>exact⟨xs,rfl,λzs e=>ns e⟩
 |some y=>exact⟨xs++y,rfl,λzs e z h=>by obtain rfl:=sj e;exact Qe _ h⟩
theorem xJ(x:Ext σ σ')(C:RdF σ' a A O)(r:RdF σ' b Z I)(Y:PartOK σ fp R O)(H:PartOK σ fp B I)
  (J:R=Jb->B=Jb->Disj O I)(h:dadd a b R B Q)(k:∀d t v σ' F,Q d t->ER σ fp σ' d t v F->Q' v σ'):wadd A Z σ' Q':=by
 induction a using D.casesOn with
 |int i=>
  obtain⟨j,rfl,h⟩:=ew h;obtain⟨rfl,rfl⟩:=C;obtain⟨rfl,rfl⟩:=r;exact k _ _ _ _ _ h<|.at0 x ⟨rfl,rfl⟩
 |list l=>
  obtain⟨m,rfl,h⟩:=eR h;obtain⟨p,K,F,rfl,T,M,rfl,C⟩:=C;obtain⟨q,N,G,rfl,e,L,rfl,r⟩:=r;have z:(K++N).length<=lim:=by rw[(C.app r).len];exact h.1
  show onL σ' (λl=>onL σ' (λm=>wlist (l++m) σ' Q')<|.ref q) (.ref p);rw[gU T,gU e];exact⟨z,dG x (C.app r) z (((Y.sub<|Kv _ _).join (H.sub<|Kv _ _) λT e c n W=>J T e c (.tail _ n)<|.tail _ W).tgl (C.app r)) h.2 k⟩
 |_=>exact h.elim
theorem wK(x:Ext σ σ')(C:RdF σ' a A O)(r:RdF σ' b q I)(p:PartOK σ fp B O)(Y:PartOK σ fp l I)
  (J:B=Jb->l=Jb->Disj O I)(h:dbin o a b B l Q)(k:∀d t v σ' F,Q d t->ER σ fp σ' d t v F->Q' v σ'):wbin o A q σ' Q':=by
 have two:∀ {K:Int->Int->Prop} {W:Int->Int->Prop},dInt (λx=>dInt (λy=>K x y) b) a->(∀x y,K x y->W x y)->onInt (λx=>onInt (λy=>W x y) q) A:=λw k=>by
  obtain⟨i,e,w⟩:=ew w;obtain⟨j,g,w⟩:=ew w;subst e g;obtain⟨rfl,o0⟩:=C;obtain⟨rfl,o0⟩:=r;exact k i j w
 induction o with
 |add=>exact xJ x C r p Y J h k
 |mul=>exact two h λi j h=>⟨h.1,k _ _ _ _ _ h.2<|.at0 x ⟨rfl,rfl⟩⟩
 |sub=>exact two h λi j h=>k _ _ _ _ _ h<|.at0 x ⟨rfl,rfl⟩
 |fdiv=>exact two h λi j h=>⟨h.1,h.2.1,k _ _ _ _ _ h.2.2<|.at0 x ⟨rfl,rfl⟩⟩
 |mod=>exact two h λi j h=>⟨h.1,k _ _ _ _ _ h.2<|.at0 x ⟨rfl,rfl⟩⟩
 |pow=>exact two h λi j h=>⟨h.1,h.2.1,h.2.2.1,k _ _ _ _ _ h.2.2.2<|.at0 x ⟨rfl,rfl⟩⟩
theorem mU{d:D}(r:RdF σ d v F)(h:d.okd n=Jc)(o:n<=50):Rd σ d.py v/\okD d.py:=by
 obtain⟨N,p,J⟩:=r.py h;exact⟨N,p,QD J o⟩
theorem qY:∀l:List D,D.pys l=l.map D.py
 |[]=>rfl
 |d::s=>Uk _<|qY s
theorem wI:∀ {vs:List PV} {F:List Jg} {n:Nat},RdFs σ l vs F->D.okds n l=Jc->n<=50->∀d∈D.pys l,okD d:=by
 induction l with
 |nil=>intro vs F n _ _ _ e O;cases O
 |cons d s i=>
  intro vs F n r h o e O;obtain⟨p,I,j,q,N,Y,J,w⟩:=r;obtain⟨k,U⟩:=Qh.mp (show(D.okd n d&&D.okds n s)=Jc from h);cases O with
  |head=>exact(mU J k o).2
  |tail _ O=>exact i w U o e O
theorem uM{Q:Bool->Prop}{Q':Bool->PH->Prop}(C:RdF σ a A F)(l:RdF σ b v I)(h:deq a b Q)(k:∀r,Q r->Q' r σ):weq A v σ Q':=by
 obtain⟨N,p⟩:=mU C h.1.1 (by decide);obtain⟨J,w⟩:=mU l h.1.2 (by decide);exact⟨_,_,N,J,p,w,k _ h.2⟩
theorem qF{Q:Bool->Prop}{Q':Bool->PH->Prop}(C:RdF σ a v O)(e:RdF σ b B F)(h:din a b Q)(k:∀r,Q r->Q' r σ):win v B σ Q':=by
 induction b using D.casesOn with
 |list l=>
  obtain⟨p,m,G,rfl,T,H,rfl,e⟩:=e;obtain⟨N,Y⟩:=mU C h.1.1 (by decide);refine .inr ?_;rw[gU T];refine⟨_,_,N,(e.py h.1.2).1,Y,wI e h.1.2<|by decide,k _ ?_⟩;rw[qY,List.any_map];exact h.2
 |dict s l=>
  obtain⟨p,m,G,rfl,T,H,rfl,e⟩:=e;refine .inl ?_;show onDO _ (σ p);rw[T];exact uX C h λx q=>k _ q
 |_=>exact h.elim
theorem kJ{f:Int->Int->Bool}{Q:Bool->Prop}{Q':Bool->PH->Prop}(C:RdF σ a v O)(l:RdF σ b q F)(h:drel f a b Q)(k:∀r,Q r->Q' r σ):wrel f v q σ Q':=by
 obtain⟨i,e,h⟩:=ew (show dInt (λx=>dInt (λy=>Q<|f x y) b) a from h);obtain⟨j,g,h⟩:=ew h;subst e g;obtain⟨rfl,o0⟩:=C;obtain⟨rfl,o0⟩:=l;exact k _ h
theorem mZ{Q:Bool->Prop}{Q':Bool->PH->Prop}(C:RdF σ a A O)(l:RdF σ b v F)(h:dcmp o a b Q)(k:∀r,Q r->Q' r σ):wcmp o A v σ Q':=by
 induction o with
 |eq=>exact uM C l h k
 |ne=>exact uM (Q:=λr=>Q (!r)) (Q':=λr σ=>Q' (!r) σ) C l h λr q=>k _ q
 |in_=>exact qF C l h k
 |nin=>exact qF (Q:=λr=>Q (!r)) (Q':=λr σ=>Q' (!r) σ) C l h λr q=>k _ q
 |lt=>exact kJ C l h k
 |le=>exact kJ C l h k
 |gt=>exact kJ C l h k
 |ge=>exact kJ C l h k
end
section
variable{σ σ1 σ2 σ':PH}{fp:String->List Jg}{Δ:DRho}{ρ:Rho}
theorem xj{d:D}(r:RdF σ d v F)(h:dlen d=Ja n):plen σ v=Ja n/\n<=lim:=by
 induction d using D.casesOn with
 |list l=>
  obtain⟨a,m,G,rfl,e,T,rfl,r⟩:=r;obtain rfl:=sj h;refine⟨?_,r.len▸T⟩;show(match σ a with
   |some (.list l)=>Ja l.length
   |_=>Jb)=_
  rw[e];exact Uk Ja r.len
 |tup l=>
  obtain⟨m,rfl,T,r⟩:=r;obtain rfl:=sj h;exact⟨Uk Ja r.len,r.len▸T⟩
 |scr l=>
  obtain⟨⟨rfl,T⟩,o0⟩:=r;obtain rfl:=sj h;exact⟨rfl,T⟩
 |_=>first|exact bnx h|exact onx h|cases h
theorem kE:∀ {l:List D} {vs:List PV} {F:List Jg} {is:List Int},RdFs σ l vs F->dInts l=Ja is->dM vs=Ja is
 |[],vs,F,is,r,h=>by rw[r.1];exact h
 |d::s,vs,F,is,N,h=>by
  obtain⟨p,I,Q,q,E,Y,J,w⟩:=N
  induction d using D.casesOn with
  |int i=>
   obtain⟨j,e,rfl⟩:=Qu.mp (show(dInts s).map (i:: ·)=Ja is from h);rw[E,J.1];exact Qu.mpr ⟨j,kE w e,rfl⟩
  |_=>first|exact bnx h|exact onx h|cases h
theorem lJ:∀ {l:List D} {vs:List PV} {F:List Jg} {is:List Bool},RdFs σ l vs F->gP l=Ja is->er vs=Ja is
 |[],vs,F,is,r,h=>by rw[r.1];exact h
 |d::s,vs,F,is,N,h=>by
  obtain⟨p,I,Q,q,E,Y,J,w⟩:=N
  induction d using D.casesOn with
  |bool i=>
   obtain⟨j,e,rfl⟩:=Qu.mp (show(gP s).map (i:: ·)=Ja is from h);rw[E,J.1];exact Qu.mpr ⟨j,lJ w e,rfl⟩
  |_=>first|exact bnx h|exact onx h|cases h
theorem ERs.one{d:D}(h:ERs σ fp σ' ds vs s)(e:ds=[(d,t)]):X2 λv F=>A3 (vs=[v]) (RdF σ' d v F) (PartOK σ fp t F):=by
 cases h with
 |nil=>cases e
 |cons r p q h=>
  cases e;cases h;exact⟨_,_,rfl,r,p⟩
theorem nq{d:D}{K:List D->Prop}{K':List PV->Prop}(r:RdF σ d v F)(h:dLst K d)(k:∀l vs G,K l->RdFs σ l vs G->vs.length<=lim->(G.Sublist F)->K' vs):onL σ K' v:=by
 obtain⟨l,rfl,h⟩:=eR h;obtain⟨a,m,G,rfl,e,T,rfl,r⟩:=r;rw[gU e];exact k _ _ _ h r T<|Kv _ _
theorem nk{K K':List Int->Prop}(h:oIs K o)(e:∀is,o=Ja is->o'=Ja is)(k:∀is,K is->K' is):oIs K' o':=by
 obtain⟨is,N,p⟩:=kG h;rw[e is N];exact k is p
theorem qO:∀ks:List (List KA),(∀k∈ks,k.length<=lim)->RdFs σ (ks.map keyDd) (ks.map keyPV) []
 |[]=>λo0=>⟨rfl,rfl⟩
 |k::ks=>λh=>⟨_,_,[],[],rfl,rfl,⟨_,rfl,(by rw[Qd];exact h k (.head _)),vO k⟩,qO ks λx hx=>h x (.tail _ hx)⟩
theorem rz:∀is:List Int,RdFs σ (is.map D.int) (is.map PV.int) []
 |[]=>⟨rfl,rfl⟩
 |i::is=>⟨_,_,[],[],rfl,rfl,⟨rfl,rfl⟩,rz is⟩
theorem zj(x:Ext σ σ')(r:ERs σ fp σ' ds vs I)(h:dbi b ds Q)
  (k:∀d t v σ' F,Q d t->ER σ fp σ' d t v F->Q' v σ'):wbi b vs σ' Q':=by
 have W:∀ {K:D->Tag->Prop} {C:PV->Prop},d1 K ds->(∀d t v F,K d t->RdF σ' d v F->PartOK σ fp t F->C v)->on1 C vs:=λw k=>by
  obtain⟨d,t,e,w⟩:=zX w;obtain⟨v,F,rfl,S,p⟩:=r.one e;exact k d t v F w S p
 induction b with
 |len=>
  exact W h λd t v F w S p=>by
   obtain⟨n,e,w⟩:=gE w;obtain⟨N,Y⟩:=xj S e;rw[N];exact⟨Y,k _ _ _ _ _ w<|.at0 x ⟨rfl,rfl⟩⟩
 |all=>
  exact W h λd t v F w S p=>nq S w λl vs G w r o0 o0=>by
   obtain⟨bs,e,w⟩:=kK w;rw[lJ r e];exact k _ _ _ _ _ w<|.at0 x ⟨rfl,rfl⟩
 |sum=>
  exact W h λd t v F w S p=>nq S w λl vs G w r o0 o0=>nk w (λis e=>kE r e) λis w=>k _ _ _ _ _ w<|.at0 x ⟨rfl,rfl⟩
 |int=>
  exact W h λd t v F w S p=>by
   obtain⟨i,rfl,w⟩:=eF w;rw[S.1];exact k _ _ _ _ _ w<|.at0 x ⟨rfl,rfl⟩
 |list=>
  exact W h λd t v F w S p=>by
   induction d using D.casesOn with
   |tup l=>obtain⟨m,rfl,T,r⟩:=S;exact .inr ⟨T,dG x r T (p.tgl r) w k⟩
   |list l=>
    obtain⟨a,m,G,rfl,e,T,rfl,r⟩:=S;refine .inr ?_;show onO _ (σ' a);rw[e];exact⟨T,dG x r T ((p.sub<|Kv _ _).tgl r) w k⟩
   |dict s l=>
    obtain⟨a,m,G,rfl,e,T,rfl,r⟩:=S;refine .inl ?_;show onDO _ (σ' a);rw[e];have M:(s.map keyPV).length<=lim:=by rw[Qd];exact w.1.1
    exact⟨M,dG x (qO s w.1.2) M .nil w.2 k⟩
   |_=>exact w.elim
 |min=>
  exact W h λd t v F w S p=>nq S w λl vs G w r o0 o0=>nk w (λis e=>kE r e) λis w=>⟨w.1,k _ _ _ _ _ w.2<|.at0 x ⟨rfl,rfl⟩⟩
 |sorted=>
  exact W h λd t v F w S p=>nq S w λl vs G w r o0 o0=>nk w (λis e=>kE r e) λis w=>⟨w.1,λj U E=>by
   have T:(j.map PV.int).length<=lim:=by
    rw[Qd,U.length_eq];exact QD (KW w.1)<|by decide
   exact⟨T,dG x (rz j) T .nil (w.2 j U E) k⟩⟩
 |dict=>
  exact W h λd t v F w S p=>by
   induction d using D.casesOn with
   |dict s l=>
    obtain⟨a,m,G,rfl,e,T,rfl,r⟩:=S;show onDO _ (σ' a);rw[e];refine⟨⟨w.1.1,by rw[T.2];exact T.1,w.1.2.1⟩,λb R=> ?_⟩;have L:G=[]:=r.atom w.1.2.2;subst L;refine k _ _ _ _ [b] w.2 ⟨⟨b,m,[],rfl,PH.set_same _ _ _,T,rfl,r.ext<|Ext.set R _⟩,x.trans<|Ext.set R _,PartOK.nil.cons (x.new R) λq=>(bQ q)⟩
   |_=>exact w.elim
end
section
variable{σ σ1 σ2 σ':PH}{fp:String->List Jg}{Δ:DRho}{ρ:Rho}
theorem Al{d:D}(r:RdF σ d v F)(h:dexc d=Jc):excV σ v=Jc:=by
 induction d using D.casesOn with
 |exc c l=>
  obtain⟨a,o0,o0,rfl,e,o0⟩:=r;show(match σ a with
   |some (.exc ..)=>Jc
   |_=>Jd)=Jc
  rcases e with e|e<;>rw[e.1]
 |_=>first|exact bnx h|exact onx h|cases h
theorem Ah{d:D}(r:RdF σ d v F)(h:disiG G d ts=Ja b):isiG G σ v ts=Ja b:=by
 have key:disi G d ts=Ja b->isiV G σ v ts=Ja b:=λh=>by
  induction d using D.casesOn with
  |none=>rw[r.1];exact h
  |bool=>rw[r.1];exact h
  |int=>rw[r.1];exact h
  |str=>rw[r.1];exact h
  |scr=>exact ns h
  |hole=>exact ns h
  |tup l=>obtain⟨m,rfl,o0⟩:=r;exact h
  |list l=>
   obtain⟨a,m,G,rfl,e,o0⟩:=r;show isiO _ ts (σ a)=_;rw[e];exact h
  |exc c l=>
   obtain⟨a,o0,o0,rfl,e,o0⟩:=r;show isiO _ ts (σ a)=_
   rcases e with e|e<;>rw[e.1]<;>exact h
  |dict k l=>exact ns h
  |inst l=>exact ns h
 unfold disiG at h;unfold isiG
 induction s:stat ts with
 |true=>rw[s] at h;exact key h
 |false=>
  rw[s] at h
  induction O:dexc d with
  |true=>rw[O] at h;rw[Al r O];exact key h
  |false=>rw[O] at h;exact ns h
theorem RdFs.get:∀ {l:List PV} {F:List Jg},RdFs σ ds l F->∀ (j:Nat) (d:D),ds[j]? =Ja d->X2 λp G=>A3 (l[j]? =Ja p) (RdF σ d p G) (G.Sublist F):=by
 induction ds with
 |nil=>intro l F _ j d O;exact ns O
 |cons d ds i=>
  intro l F h j e O;obtain⟨p,s,Q,P,N,Y,J,w⟩:=h;subst N Y
  induction j using Nat.casesOn with
  |zero=>obtain rfl:=sj O;exact⟨p,Q,rfl,J,List.sublist_append_left _ _⟩
  |succ j=>
   obtain⟨q,G,k,U,V⟩:=i w j e O;exact⟨q,G,k,U,V.trans<|List.sublist_append_right _ _⟩
theorem RdFs.take{ds:List D}:∀ {l:List PV} {F:List Jg},RdFs σ ds l F->∀ (j:Nat),∃G,RdFs σ (ds.take j) (l.take j) G/\G.Sublist F:=by
 induction ds with
 |nil=>intro l F h j;obtain⟨rfl,rfl⟩:=h;rw[List.take_nil,List.take_nil];exact⟨[],⟨rfl,rfl⟩,List.nil_sublist _⟩
 |cons d ds i=>
  intro l F h j
  induction j using Nat.casesOn with
  |zero=>exact⟨[],⟨rfl,rfl⟩,List.nil_sublist _⟩
  |succ j=>
   obtain⟨p,s,Q,q,N,Y,J,w⟩:=h;subst N Y;obtain⟨G,P,k⟩:=i w j;exact⟨Q++G,⟨p,s.take j,Q,G,rfl,rfl,J,P⟩,List.Sublist.append (List.Sublist.refl _) k⟩
theorem RdFs.drop{ds:List D}:∀ {l:List PV} {F:List Jg},RdFs σ ds l F->∀ (j:Nat),∃G,RdFs σ (ds.drop j) (l.drop j) G/\G.Sublist F:=by
 induction ds with
 |nil=>intro l F h j;obtain⟨rfl,rfl⟩:=h;rw[List.drop_nil,List.drop_nil];exact⟨[],⟨rfl,rfl⟩,List.nil_sublist _⟩
 |cons d ds i=>
  intro l F h j
  induction j using Nat.casesOn with
  |zero=>exact⟨F,h,List.Sublist.refl _⟩
  |succ j=>
   obtain⟨p,s,Q,q,N,Y,J,w⟩:=h;subst N Y;obtain⟨G,P,k⟩:=i w j;exact⟨G,P,k.trans<|List.sublist_append_right _ _⟩
abbrev wsub(σ:PH)(v i:PV)(Q:PV->Prop):Prop:=onD σ (λs l=>oK (λk=>oV Q (klook s l k)) (keyOf i)) v\/oNat (λk=>k<=lim/\oV Q (psub σ v i)) (plen σ v)
theorem ip(T:plen σ v=Ja n)(e:n<=lim)(X:psub σ v i=Ja p)(Q:PV->Prop)(q:Q p):wsub σ v i Q:=by
 refine .inr ?_;rw[T,X];exact⟨e,q⟩
theorem RdFs.look(h:RdFs σ ds l F){d:D}(e:dlook ks ds k=Ja d):X3 λj p G=>A6 (kidx ks k=Ja j) (ds[j]? =Ja d) (l[j]? =Ja p) (klook ks l k=Ja p) (RdF σ d p G) (G.Sublist F):=by
 obtain⟨j,N,Y⟩:=Qn.mp e;obtain⟨p,G,g,c,H⟩:=h.get j d Y;exact⟨j,p,G,N,Y,g,Qn.mpr ⟨j,N,g⟩,c,H⟩
theorem oq(e:σ a=Ja (.dict ks l))(T:keyOf v=Ja k)(w:klook ks l k=Ja p)(Q:PV->Prop)(q:Q p):wsub σ (.ref a) v Q:=by
 refine .inl ?_;show onDO _ (σ a);rw[e];show oK _ (keyOf v);rw[T];show oV Q (klook ks l k);rw[w];exact q
inductive SubS(σ:PH)(va vi:PV)(x:D)(Fa:List Jg):Prop
 |mk (p:PV) (G:List Jg) (e:∀Q:PV->Prop,Q p->wsub σ va vi Q) (r:RdF σ x p G) (s:G.Sublist Fa):SubS σ va vi x Fa
theorem zh(C:RdF σ a v F)(V:RdF σ i J I)(h:dsub a i=Ja x):SubS σ v J x F:=by
 induction a using D.casesOn with
 |list l=>
  induction i using D.casesOn with
  |int n=>
   obtain⟨rfl,o0⟩:=V;obtain⟨a,m,G,rfl,e,T,rfl,r⟩:=C;obtain⟨j,N,Y⟩:=Qn.mp (show((place l.length n).bind λj=>l[j]?)=Ja x from h);obtain⟨p,b,g,c,H⟩:=r.get j x Y;refine⟨p,b,ip (n:=m.length) ?_ T ?_,c,H.trans<|Kv _ _⟩
   ·show(match σ a with
     |some (.list l)=>Ja l.length
     |_=>Jb)=_
    rw[e]
   ·show psubO (.int n) (σ a)=_;rw[e];show((place m.length n).bind λj=>m[j]?)=Ja p;rw[r.len,N];exact g
  |_=>first|exact bnx h|exact onx h|cases h
 |tup l=>
  induction i using D.casesOn with
  |int n=>
   obtain⟨rfl,o0⟩:=V;obtain⟨m,rfl,T,r⟩:=C;obtain⟨j,N,Y⟩:=Qn.mp (show((place l.length n).bind λj=>l[j]?)=Ja x from h);obtain⟨p,b,g,c,H⟩:=r.get j x Y;refine⟨p,b,ip (n:=m.length) rfl T ?_,c,H⟩;show((place m.length n).bind λj=>m[j]?)=Ja p;rw[r.len,N];exact g
  |_=>first|exact bnx h|exact onx h|cases h
 |scr l=>
  induction i using D.casesOn with
  |int n=>
   obtain⟨rfl,o0⟩:=V;obtain⟨⟨rfl,T⟩,rfl⟩:=C;obtain⟨y,N,rfl⟩:=Qu.mp (show((place l.length n).bind λj=>l[j]?).map D.int=Ja x from h);exact⟨.int y,[],ip (n:=l.length) rfl T<|Qu.mpr ⟨y,N,rfl⟩,⟨rfl,rfl⟩,List.Sublist.refl _⟩
  |_=>first|exact bnx h|exact onx h|cases h
 |dict s l=>
  obtain⟨k,N,Y⟩:=Qn.mp (show((keyD i).bind λk=>dlook s l k)=Ja x from h);obtain⟨a,m,G,rfl,e,T,rfl,r⟩:=C;obtain⟨j,p,b,o0,o0,o0,g,c,H⟩:=r.look Y;exact⟨p,b,oq e (nR V N) g,c,H.trans<|Kv _ _⟩
 |_=>first|exact bnx h|exact onx h|cases h
theorem om{f:List D->List D}{f':List PV->List PV}{d:D}(w:∀ {ds:List D} {l:List PV} {F:List Jg},RdFs σ' ds l F->(f' l).length<=l.length/\∃G,RdFs σ' (f ds) (f' l) G/\G.Sublist F)
  (x:Ext σ σ')(r:RdF σ' d v F)(p:PartOK σ fp t F){ok:Nat->Prop}(h:kc f ok t Q d)(k:∀d t v σ' F,Q d t->ER σ fp σ' d t v F->Q' v σ'):qb f' ok v σ' Q':=by
 induction d using D.casesOn with
 |list l=>
  obtain⟨a,m,i,rfl,e,T,rfl,r⟩:=r;obtain⟨b,G,g,c⟩:=w r;show onO (λl=>Okl l/\wnew (.list<|f' l) σ' Q') (σ' a);rw[e];exact⟨T,dG x g (QD b T) ((p.sub<|c.trans (Kv _ _)).tgl g) h k⟩
 |_=>exact h.elim
theorem wz(k:Int){ds:List D}{l:List PV}(r:RdFs σ ds l F):(l.take (cut l.length k)).length<=l.length/\∃G,RdFs σ (ds.take (cut ds.length k)) (l.take (cut l.length k)) G/\G.Sublist F:=by
 refine⟨by simp;exact Yt _ _,?_⟩;rw[r.len];exact r.take _
theorem xD(k:Int){ds:List D}{l:List PV}(r:RdFs σ ds l F):(l.drop (cut l.length k)).length<=l.length/\∃G,RdFs σ (ds.drop (cut ds.length k)) (l.drop (cut l.length k)) G/\G.Sublist F:=by
 refine⟨by simp,?_⟩;rw[r.len];exact r.drop _
theorem uQ:∀ {a b:List D} {l m:List PV} {F G:List Jg},RdFs σ a l F->RdFs σ b m G->∃H,RdFs σ ((a.zip b).map λp=> .tup [p.1,p.2]) ((l.zip m).map λp=> .tup [p.1,p.2]) H/\∀c∈H,c∈F\/c∈G
 |[],b=>λh k=>by obtain⟨rfl,rfl⟩:=h;exact⟨[],⟨rfl,rfl⟩,λc C=>(bQ C)⟩
 |d::s,[]=>λh k=>by
  obtain⟨rfl,rfl⟩:=k;rw[List.zip_nil_right,List.zip_nil_right];exact⟨[],⟨rfl,rfl⟩,λc C=>(bQ C)⟩
 |d::s,e::x=>λN r=>by
  obtain⟨p,I,j,t,Y,Q,J,w⟩:=N;obtain⟨q,K,G1,i,P,U,V,R⟩:=r;subst Y Q P U;obtain⟨H,E,f⟩:=uQ w R;refine⟨(j++G1)++H,⟨.tup [p,q],_,j++G1,H,rfl,rfl,⟨[p,q],rfl,(show 2<=1000000 by decide),p,[q],j,G1,rfl,rfl,J,q,[],G1,[],rfl,(QO _).symm,V,rfl,rfl⟩,E⟩,λc C=> ?_⟩
  rcases Qr.mp C with C|C
  ·exact(Qr.mp C).imp (Qj _) (Qj _)
  ·exact(f c C).imp (Qe _) (Qe _)
theorem sR(n:Nat):RdFs σ ((Qc n).map λ(i:Nat)=>D.int i) ((Qc n).map λ(i:Nat)=>PV.int i) []:=by
 generalize Qc n=l
 induction l with
 |nil=>exact⟨rfl,rfl⟩
 |cons i r h=>exact⟨_,_,[],[],rfl,rfl,⟨rfl,rfl⟩,h⟩
theorem RdFs.one1{d:D}(r:RdFs σ [d] vs F):∃v,vs=[v]/\RdF σ d v F:=by
 obtain⟨p,s,j,N,T,e,f,X,u⟩:=r;exact⟨p,by rw[T,X],by rw[e,u,QO];exact f⟩
theorem RdFs.two2{d d':D}(r:RdFs σ [d,d'] vs F):X4 λv w j N=>A4 (vs=[v,w]) (F=j++N) (RdF σ d v j) (RdF σ d' w N):=by
 obtain⟨p,s,j,N,T,e,f,M⟩:=r;obtain⟨w,X,y⟩:=M.one1;exact⟨p,w,j,N,by rw[T,X],e,f,y⟩
abbrev SrcC(σ':PH)(FF:List Jg)(K:List D->Prop)(K':List PV->(PH->Prop)->Prop):Prop:=∀x l c G,K x->RdFs σ' x l G->l.length<=lim->(∀a∈G,a∈FF)->(∀j,(∀a∈FF,j a=σ' a)->c j)->K' l c
theorem Be{d:D}{FF:List Jg}{K:List D->Prop}{K':List PV->(PH->Prop)->Prop}(f:RdF σ' d v FF)(h:dSeq K d)(c:SrcC σ' FF K K'):src .val [v] σ' K':=by
 induction d using D.casesOn with
 |tup l=>
  obtain⟨m,u,T,r⟩:=f;rw[u];exact c l m _ _ h r T (λa H=>H) λo0 o0=>trivial
 |list l=>
  obtain⟨a,m,G,u,e,T,p,r⟩:=f;rw[u];show onL σ' (λl=>K' l λσ'=>σ' a=Ja (.list l)) (.ref a);rw[gU e];exact c l m _ G h r T (λb R=>by rw[p];exact .tail _ R) λj s=>(s a<|by rw[p];exact .head _).trans e
 |_=>exact h.elim
theorem AO{d d':D}{K:List D->Prop}{K':List PV->(PH->Prop)->Prop}(f:RdF σ' d v F)(o:RdF σ' d' Z I)(h:dLst (λl=>dLst (λm=>K ((l.zip m).map λp=> .tup [p.1,p.2])) d') d)(c:SrcC σ' (F++I) K K'):src .zip [v,Z] σ' K':=by
 obtain⟨l,rfl,N⟩:=eR h;obtain⟨w,rfl,Q⟩:=eR N;obtain⟨a,m,G,u,e,M,T,C⟩:=f;obtain⟨Y,S,k,g,A,J,L,r⟩:=o;obtain⟨H,E,V⟩:=uQ C r;rw[u,g];show onL σ' (λl=>onL σ' (λm=>K' ((l.zip m).map λp=> .tup [p.1,p.2]) λσ'=>σ' a=Ja (.list l)/\σ' Y=Ja (.list m))<|.ref Y) (.ref a);rw[gU e,gU A];refine c _ _ _ H Q E (by rw[Qd,List.length_zip];exact QD (Nat.min_le_left _ _) M) (λb R=> ?_) λj s=>⟨(s a<|Qj _ (by rw[T];exact .head _)).trans e,(s Y<|Qe _ (by rw[L];exact .head _)).trans A⟩
 exact(V b R).elim (λq=>Qj _<|by rw[T];exact .tail _ q) λq=>Qe _<|by rw[L];exact .tail _ q
theorem Ay{FF:List Jg}{K:List D->Prop}{K':List PV->(PH->Prop)->Prop}(r:RdFs σ' ds vs FF)(h:dsrc k ds K)(c:SrcC σ' FF K K'):src k vs σ' K':=by
 induction k with
 |val=>
  obtain⟨d,rfl,i⟩:=rx h;obtain⟨v,e,f⟩:=r.one1;rw[e];exact Be f i c
 |range=>
  obtain⟨d,rfl,i⟩:=rx h;obtain⟨n,rfl,N,p⟩:=ew i;obtain⟨v,e,f⟩:=r.one1;rw[e,f.1];exact⟨N.1,c _ _ _ [] p (sR _) (by rw[Qd,Qt];exact Int.toNat_le.mpr N.2) (λa T=>(bQ T)) λo0 o0=>trivial⟩
 |zip=>
  obtain⟨d,X,rfl,i⟩:=xi h;obtain⟨v,w,j,q,L,F,f,M⟩:=r.two2;rw[L];exact AO f M i<|F▸c
theorem pT{F:List (List Jg)}{K:List D->Prop}{K':List PV->(PH->Prop)->Prop}(r:ERs σ fp σ' ds vs F)(h:dsrc k (fsts ds) K)
  (c:∀xs l chk G,K xs->RdFs σ' xs l G->l.length<=lim->(∀a∈G,a∈F.flatten)->(∀j,(∀a∈F.flatten,j a=σ' a)->chk j)->K' l chk):src k vs σ' K':=Ay r.rds h c
end
section
variable{σ σ1 σ2 σ':PH}{fp:String->List Jg}{Δ:DRho}{ρ:Rho}
theorem xC{ns:List String}{f:String->List Jg}(h:PartOK σ1 f u F)(x:Ext σ σ1)(E:PartOK σ fp ts G)(w:∀y a,a∈f y->(y∈ns/\a∈G)\/(y∉ns/\a∈fp y)):PartOK σ fp (tout ns ts u) F:=by
 induction u with
 |none=>exact⟨λo0=>⟨(h.own rfl).1,λa T=>x.new ((h.own rfl).2 a T)⟩,λs e=>nomatch e⟩
 |some s=>
  refine⟨λe=> ?_,λzs e a T=> ?_⟩
  ·exact sn (np e).1
  obtain⟨c,m⟩:=ub (a:=Ja<|s.filter λx=> !ns.contains x) (b:=ts) e
  rcases h.al s rfl a T with q|⟨y,W,q⟩
  ·exact .inl<|x.new q
  ·rcases w y a q with⟨o0,q⟩|⟨N,Z⟩
   ·exact(E.wide m).al zs rfl a q
   ·exact .inr ⟨y,c _ rfl y<|Qi.mpr ⟨W,by simpa using N⟩,Z⟩
theorem pB{tst:DRho->(Bool->Prop)->Prop}{el:DRho->DQ->Prop}{s:Rho->PH->(Bool->PH->Prop)->Prop}{g:Rho->PH->Post->Prop}{chk:PH->Prop}
  (env:EnvE σ Δ ρ fp)(n:PartOK σ fp ts L)
  (X:∀P ρ' f σ1 K K',EnvE σ1 P ρ' f->tst P K->(∀b σ2,K b->Ext σ1 σ2->K' b σ2)->s ρ' σ1 K')
  (B:∀P ρ' f σ1 K K',EnvE σ1 P ρ' f->el P K->(∀d t v σ2 F,K d t->ER σ1 f σ2 d t v F->K' v σ2)->g ρ' σ1 K'):
  ∀ (xs:List D) (vs:List PV) (Gx:List Jg) (m:List D) (c:List PV) (O:List Jg) (t:Tag) (σ1:PH) (K:List D->Tag->Prop) (K':List PV->PH->Prop),RdFs σ1 xs vs Gx->(∀a∈Gx,a∈L)->Ext σ σ1->(∀σ2,Ext σ1 σ2->chk σ2)->
   RdFs σ1 m c O->PartOK σ fp t O->c.length+vs.length<=lim->dcomp tg Δ ts tst el xs m t K->
   (∀m t c σ2 O,K m t->Ext σ σ2->RdFs σ2 m c O->PartOK σ fp t O->c.length<=lim->K' c σ2)->gv chk tg ρ s g vs c σ1 K':=by
 intro xs
 induction xs with
 |nil=>
  intro vs Gx m c O t σ1 K K' r _ x C Z Y H h k;obtain⟨rfl,o0⟩:=r;exact⟨C σ1<|.refl _,k _ _ _ _ _ h x Z Y H⟩
 |cons d ds i=>
  intro vs Gx m c O t σ1 K K' R S x C Z Y H h k;obtain⟨p,I,F1,Q,e1,w,r1,M⟩:=R;subst e1 w;refine⟨C σ1<|.refl _,?_⟩;obtain⟨P,e,h⟩:=gZ h;obtain⟨ρ',f,b1,E,z⟩:=(env.ext x).bindC r1 e;rw[b1];refine X P ρ' f σ1 _ _ E h λb σ2 h W=> ?_;have U:c.length+(I.length+1)<=lim:=H
  induction b with
  |false=>exact i I Q m c O t σ2 K K' (M.ext W) (λa T=>S a<|Qe _ T) (x.trans W) (λV J=>C V<|W.trans J) (Z.ext W) Y (by exact Kj U) h k
  |true=>
   refine B P ρ' f σ2 _ _ (E.ext W) h λe u v V F h j=> ?_;have J:=W.trans j.ext;have po:PartOK σ fp (tout tg.names ts u) F:=xC j.part (x.trans W) n λy a T=>(z y a T).imp_left λq=>⟨q.1,S a<|Qj _ q.2⟩
   refine i I Q (m++[e]) (c++[v]) (O++F) (tj t<|tout tg.names ts u) V K K' (M.ext J) (λa T=>S a<|Qe _ T) (x.trans J) (λN A=>C N<|J.trans A)
    ((Z.ext J).app ⟨v,[],F,[],rfl,(QO _).symm,j.rd,rfl,rfl⟩) (Y.join po λo0 w a T hb=> ?_) (by rw[QJ,WK];exact zle (QS<|QP _ _ _) U) h k
   have o:u=Jb:=by
    induction u with
    |none=>rfl
    |some xs=>exact sn (np w).1
   obtain⟨l,el⟩:=(Z.ext W).dom a T;have:=(j.part.own o).2 a hb;exact sn<|el.symm.trans this
end
theorem ERs.from{fp:String->List Jg}(h:ERs σ1 fp σ' ds vs F)(x:Ext σ σ1):ERs σ fp σ' ds vs F:=by
 induction h with
 |nil=>exact .nil
 |cons r p q h i=>exact .cons r (p.from x) q i
theorem ERs.mem{fp:String->List Jg}{ds:List (D×Tag)}(h:ERs σ fp σ' ds vs F):∀p∈ds.zip F,PartOK σ fp p.1.2 p.2:=by
 induction h with
 |nil=>intro p K;cases K
 |cons r p q h i=>
  intro x hx;cases hx with
  |head=>exact p
  |tail _ hx=>exact i x hx
theorem nV{fp:String->List Jg}{d:D}(env:EnvE σ Δ ρ fp)(r:ER σ fp σ1 d t v F)(x:Ext σ1 σ2)(s:ERs σ1 fp σ2 ds vs i):
  ERs σ fp σ2 ((d,t)::ds) (v::vs) (F::i):=
 .cons (r.rd.ext x) r.part (λp h e=>r.part.apart env.dom r.ext r.rd.dom (s.mem p h) e) (s.from r.ext)
section
variable{G:Gx}{cv:Cl}
theorem yT:DOK G cv (.glob x):=λΔ ρ fp σ Q X r H n h k N=>by
 have h:dglob Q (G.glob x):=h;show oV _ (G.glob x)
 induction e:G.glob x with
 |none=>rw[e] at h;exact h.elim
 |some v=>
  rw[e] at h
  induction v using PV.casesOn with
  |int i=>exact k _ _ _ _ _ h<|.at0 (.refl σ) ⟨rfl,rfl⟩
  |str i=>exact k _ _ _ _ _ h<|.at0 (.refl σ) ⟨rfl,rfl⟩
  |_=>exact h.elim
theorem AY:DOK G cv (.loc x):=λΔ ρ fp σ Q X t H n h k N=>by
 obtain⟨⟨d,b⟩,e,h⟩:=dH (show dOE (λp=>Q p.1<|tg0 p.1 (Ja [x])) (Δ.get x) from h);obtain⟨v,g,r⟩:=n.at_ x d b e;show oV _ (ρ.get x);rw[g];refine k _ _ _ _ _ h ⟨r,.refl σ,PartOK.tg0 ⟨λe=>(sn e),λs e a T=> ?_⟩ r⟩;obtain rfl:=sj e;exact .inr ⟨x,.head _,T⟩
theorem Bm(T:DOK G cv a)(R:DOK G cv b):DOK G cv (.bin o a b):=λΔ ρ fp σ Q X M H n h k N=>
 T Δ ρ fp σ _ X _ H n h (λu l v σ1 O h r=>R Δ ρ fp σ1 _ X _ H (n.ext r.ext) h (λZ t m σ2 I h D=>
  wK (r.ext.trans D.ext) (r.rd.ext D.ext) D.rd r.part (D.part.from r.ext) (λe o0=>r.part.apart n.dom r.ext r.rd.dom D.part (.inl e)) h k) λc d ws σ' F q x=>N c d ws σ' F q (x.from r.ext)) N
theorem Bf(T:DOK G cv a):DOK G cv (.not_ a):=λΔ ρ fp σ Q X M H e h k x=>
 T Δ ρ fp σ _ X _ H e h (λd t v σ1 F h r=>by
  obtain⟨i,rfl,h⟩:=eF h;rw[r.rd.1];exact k _ _ _ _ _ h (.at0 r.ext ⟨rfl,rfl⟩)) x
theorem BA(T:DOK G cv a)(R:DOK G cv b):DOK G cv (.and_ a b):=λΔ ρ fp σ Q X M H e h k N=>
 T Δ ρ fp σ _ X _ H e h (λu l A σ1 O h C=>by
  obtain⟨i,rfl,h⟩:=eF h;rw[C.rd.1]
  induction i with
  |true=>exact R Δ ρ fp σ1 _ X _ H (e.ext C.ext) h (λd t v σ2 F h r=>k _ _ _ _ _ h<|r.from C.ext) λc s ws σ' F q x=>N c s ws σ' F q<|x.from C.ext
  |false=>exact k _ _ _ _ _ h (.at0 C.ext ⟨rfl,rfl⟩)) N
theorem BO(T:DOK G cv a)(R:DOK G cv b):DOK G cv (.or_ a b):=λΔ ρ fp σ Q X M H e h k N=>
 T Δ ρ fp σ _ X _ H e h (λu l A σ1 O h C=>by
  obtain⟨i,rfl,h⟩:=eF h;rw[C.rd.1]
  induction i with
  |false=>exact R Δ ρ fp σ1 _ X _ H (e.ext C.ext) h (λd t v σ2 F h r=>k _ _ _ _ _ h<|r.from C.ext) λc s ws σ' F q x=>N c s ws σ' F q<|x.from C.ext
  |true=>exact k _ _ _ _ _ h (.at0 C.ext ⟨rfl,rfl⟩)) N
theorem lW{d:D}{v:PV}(r:RdF σ d v F)(h:i4 d=Jd):v.isNone=d.isNone:=by
 induction d using D.casesOn with
 |none=>rw[r.1];rfl
 |bool=>rw[r.1];rfl
 |int=>rw[r.1];rfl
 |str=>rw[r.1];rfl
 |scr=>rw[r.1.1];rfl
 |hole=>exact tf h
 |tup l=>obtain⟨m,rfl,o0⟩:=r;rfl
 |list l=>obtain⟨a,m,G,rfl,o0⟩:=r;rfl
 |exc c l=>obtain⟨a,d,m,rfl,o0⟩:=r;rfl
 |dict k l=>obtain⟨a,m,G,rfl,o0⟩:=r;rfl
 |inst l=>obtain⟨a,d,m,rfl,o0⟩:=r;rfl
theorem t0(T:DOK G cv a):DOK G cv (.isNone a):=λΔ ρ fp σ Q X M H e h k x=>
 T Δ ρ fp σ _ X _ H e h (λd t v σ1 F h r=>by
  rw[lW r.rd h.1];exact k _ _ _ _ _ h.2 (.at0 r.ext ⟨rfl,rfl⟩)) x
theorem sG(T:DOK G cv a):DOK G cv (.notNone a):=λΔ ρ fp σ Q X M H e h k x=>
 T Δ ρ fp σ _ X _ H e h (λd t v σ1 F h r=>by
  rw[lW r.rd h.1];exact k _ _ _ _ _ h.2 (.at0 r.ext ⟨rfl,rfl⟩)) x
theorem Bv(T:DOK G cv a)(R:DOK G cv b):DOK G cv (.cmp o a b):=λΔ ρ fp σ Q X M H e h k N=>
 T Δ ρ fp σ _ X _ H e h (λu l v σ1 O h C=>R Δ ρ fp σ1 _ X _ H (e.ext C.ext) h (λZ t m σ2 I h D=>
  mZ (C.rd.ext D.ext) D.rd h λr q=>k _ _ _ _ _ q (.at0 (C.ext.trans D.ext) ⟨rfl,rfl⟩)) λc d ws σ' F q x=>N c d ws σ' F q (x.from C.ext)) N
theorem y8(T:DOK G cv a)(R:DOK G cv b)(Z:DOK G cv c):DOK G cv (.cmp2 a o b P c):=λΔ ρ fp σ Q X w H e h k N=>
 T Δ ρ fp σ _ X _ H e h (λM l v σ1 O h C=>R Δ ρ fp σ1 _ X _ H (e.ext C.ext) h (λi t m σ2 I h D=>
  mZ (C.rd.ext D.ext) D.rd h λr q=>by
   have W:=C.ext.trans D.ext
   induction r with
   |false=>exact k _ _ _ _ _ q<|.at0 W ⟨rfl,rfl⟩
   |true=>exact Z Δ ρ fp σ2 _ X _ H (e.ext W) q (λz f j p g h u=>mZ (D.rd.ext u.ext) u.rd h λr q=>k _ _ _ _ _ q (.at0 (W.trans u.ext) ⟨rfl,rfl⟩)) λc d ws σ' F q x=>N c d ws σ' F q (x.from W)) λc d ws σ' F q x=>N c d ws σ' F q (x.from C.ext)) N
theorem Bx(T:DOKs G cv l):DOK G cv (.tup l):=λΔ ρ fp σ Q X t H e h k N=>
 T Δ ρ fp σ _ X _ H e h (λd v σ1 F h x r=>k _ _ _ _ _ h.2 ⟨⟨v,rfl,by rw[r.rds.len];exact h.1,r.rds⟩,x,r.part⟩) N
theorem Aq(T:DOKs G cv l):DOK G cv (.list l):=λΔ ρ fp σ Q X t H e h k N=>
 T Δ ρ fp σ _ X _ H e h (λd v σ1 F h x r=>dG x r.rds (by rw[r.rds.len];exact h.1) r.part h.2 k) N
theorem AG(T:DOK G cv a)(R:DOK G cv i):DOK G cv (.sub a i):=λΔ ρ fp σ Q X w H n h k N=>
 T Δ ρ fp σ _ X _ H n h (λM l v σ1 O h r=>R Δ ρ fp σ1 _ X _ H (n.ext r.ext) h (λZ t m σ2 I h b=>by
  obtain⟨d,e,h⟩:=fY h;obtain⟨p,F,L,u,V⟩:=zh (r.rd.ext b.ext) b.rd e;exact L _ (k _ _ _ _ _ h ⟨u,r.ext.trans b.ext,(r.part.sub V).tg0 u⟩)) λc s ws σ' F q x=>N c s ws σ' F q (x.from r.ext)) N
theorem zw(T:DOK G cv a)(R:DOK G cv i):DOK G cv (.upto a i):=λΔ ρ fp σ Q X M H e h k N=>
 T Δ ρ fp σ _ X _ H e h (λu B v σ1 O h r=>R Δ ρ fp σ1 _ X _ H (e.ext r.ext) h (λS t Z σ2 I h b=>by
  obtain⟨n,rfl,h⟩:=ew h;rw[b.rd.1];exact om (f:=λl=>l.take (cut l.length n)) (f':=λl=>l.take (cut l.length n)) (ok:=λm=>0<=n/\n<m) (wz n) (r.ext.trans b.ext) (r.rd.ext b.ext) r.part h k) λc d ws σ' F q x=>N c d ws σ' F q (x.from r.ext)) N
theorem zi(T:DOK G cv a)(R:DOK G cv i):DOK G cv (.from_ a i):=λΔ ρ fp σ Q X M H e h k N=>
 T Δ ρ fp σ _ X _ H e h (λu B v σ1 O h r=>R Δ ρ fp σ1 _ X _ H (e.ext r.ext) h (λS t Z σ2 I h b=>by
  obtain⟨n,rfl,h⟩:=ew h;rw[b.rd.1];exact om (f:=λl=>l.drop (cut l.length n)) (f':=λl=>l.drop (cut l.length n)) (ok:=λm=>1<=n/\n<=m) (xD n) (r.ext.trans b.ext) (r.rd.ext b.ext) r.part h k) λc d ws σ' F q x=>N c d ws σ' F q (x.from r.ext)) N
theorem qd{K:PH->Prop}(h:∀σ1,Ext σ σ1->K σ1):whid k σ K:=by
 induction k with
 |zip=>exact λz v=>h _<|Ext.set v _
 |_=>exact h σ<|.refl σ
theorem vu{σ1 σ2 σ3:PH}{F:List (List Jg)}{fp:String->List Jg}{chk:PH->Prop}(r:ERs σ fp σ1 ds vs F)(c:∀j,(∀a∈F.flatten,j a=σ1 a)->chk j)(x:Ext σ1 σ2):chk σ2:=
 c σ2 λa h=>by obtain⟨l,e⟩:=r.rds.dom a h;exact(x a _ e).trans e.symm
theorem zS(V:DOK G cv e)(hi:DOKs G cv i):DOK G cv (.comp e tg k i):=λΔ ρ fp σ Q X M H n h L N=>
 ⟨h.1,hi Δ ρ fp σ _ X _ H n h.2 (λd w σ1 F h x r=>pT r h λs l z Gx h U T g c=>⟨T,qd λσ2 W=>
  pB n r.part (λP O f σ1 K C o0 h k=>k _ _ h<|.refl _) (λP O f σ1 K C v h k=>V P O f σ1 K _ C _ v h k λo0 o0 o0 o0 o0 q o0=>q)
   s l Gx [] [] [] Jb σ2 _ _ (U.ext W) g (x.trans W) (λD J=>vu (σ3:=D) r c (W.trans J)) ⟨rfl,rfl⟩ .nil (by rw[WD,Ww];exact T) h λb t a σ2 I h x r p T=>dG x r T p h L⟩) N⟩
theorem vt(V:DOK G cv e)(g:DOK G cv c)(hi:DOKs G cv i):DOK G cv (.compIf e tg k i c):=λΔ ρ fp σ Q X M H n h L N=>
 ⟨h.1,hi Δ ρ fp σ _ X _ H n h.2 (λR j σ1 w h x r=>pT r h λs l z Gx h U T S Z=>⟨T,qd λσ2 W=>
  pB n r.part (λP O f σ1 K C Y h k=>g P O f σ1 _ _ _ _ Y h (λd t v σ2 F h r=>by
    obtain⟨b,rfl,h⟩:=eF h;rw[r.rd.1];exact k _ _ h r.ext) λo0 o0 o0 o0 o0 q o0=>q) (λP O f σ1 K C Y h k=>V P O f σ1 K _ C _ Y h k λo0 o0 o0 o0 o0 q o0=>q)
   s l Gx [] [] [] Jb σ2 _ _ (U.ext W) S (x.trans W) (λD J=>vu (σ3:=D) r Z (W.trans J)) ⟨rfl,rfl⟩ .nil (by rw[WD,Ww];exact T) h λu t a σ2 I h x r p T=>dG x r T p h L⟩) N⟩
theorem n9{f:String}{ds:List (D×Tag)}{vs:List PV}{s:List (List Jg)}{σ σ1:PH}{fp:String->List Jg}{Q:DQ}{X:DX}{Q':Post}{H:XPost}(h:aR cv f (flags ds) (λd b=>Q d (tg0 d (cond b Jb (tj (Ja []) (tjs ds))))) X)(x:Ext σ σ1)(r:ERs σ fp σ1 ds vs s)
  (k:∀d t v σ' F,Q d t->ER σ fp σ' d t v F->Q' v σ')(N:∀c ds ws σ' F,X c ds->XOK σ σ' ds ws F->H ⟨c,ws⟩ σ'):cv f vs σ1 Q' H:=
 h σ1 vs s Q' H r.args (λd b v σ2 F q C=>by
   have W:Ext σ σ2:=λa o e=>C.kept a o (x a o e) λw=>by have:=r.owned a w;exact sn<|e.symm.trans this
   refine k _ _ _ _ _ q ⟨C.rd,W,PartOK.tg0 ?_ C.rd⟩
   induction b with
   |true=>exact⟨λo0=>⟨(C.own rfl).1,λa T=>((C.own rfl).2 a T).elim x.new (r.owned a)⟩,λP e=>(ns e)⟩
   |false=>
    obtain⟨y,p,m⟩:=xy [] (tjs ds);show PartOK σ fp (tj (Ja []) (tjs ds)) F;rw[p];refine⟨λe=>(sn e),λzs e a T=> ?_⟩;obtain rfl:=sj e;exact(C.al a T).elim (λq=> .inl (x.new q)) λq=>(r.part.wide m).al y rfl a q)
  λc U ws σ2 F q E=>N c U ws σ2 F q ⟨E.rd,λa o e=>E.kept a o (x a o e) (λw=>by have:=r.owned a w;exact sn<|e.symm.trans this),E.nd,λa T=>(E.own a T).elim x.new (r.owned a)⟩
theorem yw{args:List E}(a:DOKs G cv args):DOK G cv (.call f args):=λΔ ρ fp σ Q X t H e h k N=>
 ⟨h.1,a Δ ρ fp σ _ X _ H e h.2 (λd v σ1 F h x r=>n9 h x r k N) N⟩
theorem Af{d:D}(r:RdF σ d v F)(h:dIns d):onI σ v:=by
 induction d using D.casesOn with
 |inst l=>
  obtain⟨a,b,m,rfl,e,o0⟩:=r;show onIO (σ a);rw[e];trivial
 |_=>exact h.elim
theorem v9{args:List E}(w:DOK G cv o)(a:DOKs G cv args):DOK G cv (.mcall f o args):=λΔ ρ fp σ Q X M H e h k N=>
 ⟨h.1,w Δ ρ fp σ _ X _ H e h.2 (λd t v σ1 F h r=>⟨Af r.rd h.1,a Δ ρ fp σ1 _ X _ H (e.ext r.ext) h.2 (λs J σ2 i h x j=>n9 h (r.ext.trans x) (nV e r x j) k N) λc s ws σ' F q x=>N c s ws σ' F q<|x.from r.ext⟩) N⟩
theorem BM{args:List E}(a:DOKs G cv args):DOK G cv (.bi b args):=λΔ ρ fp σ Q X t H e h k N=>
 ⟨h.1,a Δ ρ fp σ _ X _ H e h.2 (λd v σ1 F h x r=>zj x r h k) N⟩
theorem AW(T:DOK G cv a):DOK G cv (.isi a ts):=λΔ ρ fp σ Q X M H n h k x=>
 ⟨h.1,T Δ ρ fp σ _ X _ H n h.2 (λd t v σ1 F h r=>by
  obtain⟨b,e,h⟩:=t7 h;rw[Ah r.rd e];exact k _ _ _ _ _ h (.at0 r.ext ⟨rfl,rfl⟩)) x⟩
theorem jX(h:RdFs σ ds l F)(e:dlook ks ds k=Jb):klook ks l k=Jb:=by
 unfold klook;unfold dlook at e
 induction T:kidx ks k with
 |none=>rfl
 |some j=>
  rw[T] at e;show l[j]? =Jb;have e:ds[j]? =Jb:=e;rw[WT] at e ⊢;rw[h.len];exact e
theorem zn{d y:D}(r:RdF σ d v F)(h:dfld G f d=Ja y):X2 λp z=>A3 (pattr G σ f v=Ja p) (RdF σ y p z) (z.Sublist F):=by
 induction d using D.casesOn with
 |exc c l=>
  obtain⟨a,b,m,rfl,S,r⟩:=r;obtain⟨j,N,Y⟩:=Qn.mp (show(((G.flds c).idxOf? f).bind λj=>l[j]?)=Ja y from h);obtain⟨p,z,g,X,H⟩:=r.get j y Y;refine⟨p,z,?_,X,H⟩
  rcases S with⟨e,w⟩|⟨e,rfl⟩
  rotate_left
  ·exact ns g
  show pfld G σ f (σ a)=_;rw[e];show pfd G f (σ b)=_;rw[w];exact Qn.mpr ⟨j,N,g⟩
 |inst l=>
  obtain⟨a,b,m,rfl,e,w,r⟩:=r;obtain⟨j,N,Y⟩:=Qn.mp (show(((G.flds "Bounds").idxOf? f).bind λj=>l[j]?)=Ja y from h);obtain⟨p,z,g,X,H⟩:=r.get j y Y;refine⟨p,z,?_,X,H⟩;show pfld G σ f (σ a)=_;rw[e];show pfd G f (σ b)=_;rw[w];exact Qn.mpr ⟨j,N,g⟩
 |_=>first|exact bnx h|exact onx h|cases h
theorem wL:DOK G cv .dict0:=λΔ ρ fp σ Q X r H e h k x=>
 ⟨h.1,λa T=>k _ _ _ _ [a] h.2 ⟨⟨a,[],[],rfl,PH.set_same _ _ _,⟨QY _,rfl⟩,rfl,rfl,rfl⟩,Ext.set T _,PartOK.nil.cons T λq=>(bQ q)⟩⟩
theorem AJ(ha:DOK G cv a)(hb:DOK G cv i):DOK G cv (.get a i):=λΔ ρ fp σ Q X Q' X' env h k kx=>
 ha Δ ρ fp σ _ X _ X' env h (λda ta va σ1 Fa h ra=>by
  obtain⟨ks,l,rfl,h⟩:=ot h;obtain⟨b,m,G0,rfl,e,hl,rfl,r⟩:=ra.rd;have at_:∀ {σ2:PH} {K:List (List KA)->List PV->Prop},Ext σ1 σ2->K ks m->onD σ2 K (.ref b):=λ{σ2 K} x h=>by
   show onDO K (σ2 b);rw[x b _ e];exact h
  refine⟨at_ (.refl _) trivial,hb Δ ρ fp σ1 _ X _ X' (env.ext ra.ext) h (λdb tb vb σ2 Fb h rb=>at_ rb.ext<|uX rb.rd h λx h=> ?_) λc ds ws σ' F q x=>kx c ds ws σ' F q<|x.from ra.ext⟩;have r2:=r.ext rb.ext
  induction e:dlook ks l x with
  |some d=>
   rw[e] at h;obtain⟨j,p,G',o0,o0,o0,g1,g2,g3⟩:=r2.look e;rw[g1];exact k _ _ _ _ _ h ⟨g2,ra.ext.trans rb.ext,(ra.part.sub<|g3.trans (Kv _ _)).tg0 g2⟩
  |none=>
   rw[e] at h;rw[jX r2 e];exact dG (ra.ext.trans rb.ext) (ds:=[]) (l:=[]) (F:=[]) ⟨rfl,rfl⟩ (QY _) .nil h k) kx
theorem Ai:DOK G cv (.attr x f):=λΔ ρ fp σ Q X t H n h k N=>by
 obtain⟨⟨d,b⟩,e,h⟩:=dH (show dOE (λp=>dOD (λd=>Q d<|tg0 d (Ja [x]))<|dfld G f p.1) (Δ.get x) from h);obtain⟨y,w,h⟩:=fY h;obtain⟨v,g,r⟩:=n.at_ x d b e;show oV _ (ρ.get x);rw[g];obtain⟨p,F,W,M,s⟩:=zn r w;show oV _ (pattr G σ f v);rw[W];refine k _ _ _ _ _ h ⟨M,.refl σ,PartOK.tg0 ⟨λe=>(sn e),λP e a T=> ?_⟩ M⟩;obtain rfl:=sj e;exact .inr ⟨x,.head _,s.subset T⟩
theorem AI(T:DOK G cv a):DOK G cv (.cnt i a):=λΔ ρ fp σ Q X M H e h k x=>
 T Δ ρ fp σ _ X _ H e h (λd t v σ1 F h C=>by
  obtain⟨l,rfl,h⟩:=eR h;obtain⟨bs,b,h⟩:=kK h;obtain⟨p,q,n,rfl,y,J,o0,r⟩:=C.rd;show onL σ1 _ (.ref p);rw[gU y,lJ r b]
  induction i with
  |false=>exact k _ _ _ _ _ h<|.at0 C.ext ⟨rfl,rfl⟩
  |true=>exact⟨h.1,k _ _ _ _ _ h.2 (.at0 C.ext ⟨rfl,rfl⟩)⟩) x
mutual
theorem bj:∀e:E,DOK G cv e
 | .none=>λΔ ρ fp σ Q X Q' H env h k N=>k _ _ _ _ _ h<|.at0 (.refl σ) ⟨rfl,rfl⟩
 | .bool _=>λΔ ρ fp σ Q X Q' H env h k N=>k _ _ _ _ _ h<|.at0 (.refl σ) ⟨rfl,rfl⟩
 | .int _=>λΔ ρ fp σ Q X Q' H env h k N=>k _ _ _ _ _ h<|.at0 (.refl σ) ⟨rfl,rfl⟩
 | .str _=>λΔ ρ fp σ Q X Q' H env h k N=>k _ _ _ _ _ h<|.at0 (.refl σ) ⟨rfl,rfl⟩
 | .loc _=>AY
 | .glob _=>yT
 | .bin _ a b=>Bm (bj a)<|bj b
 | .not_ a=>Bf<|bj a
 | .and_ a b=>BA (bj a)<|bj b
 | .or_ a b=>BO (bj a)<|bj b
 | .isNone a=>t0<|bj a
 | .notNone a=>sG<|bj a
 | .cmp _ a b=>Bv (bj a)<|bj b
 | .cmp2 a _ b _ c=>y8 (bj a) (bj b)<|bj c
 | .tup l=>Bx<|cP l
 | .list l=>Aq<|cP l
 | .sub a b=>AG (bj a)<|bj b
 | .upto a b=>zw (bj a)<|bj b
 | .from_ a b=>zi (bj a)<|bj b
 | .comp e _ _ l=>zS (bj e)<|cP l
 | .compIf e _ _ l c=>vt (bj e) (bj c)<|cP l
 | .call _ l=>yw<|cP l
 | .bi _ l=>BM<|cP l
 | .isi a _=>AW<|bj a
 | .meth .. =>λΔ ρ fp σ Q X Q' H env h k N=>h.elim
 | .dict0=>wL
 | .get a b=>AJ (bj a)<|bj b
 | .sd .. =>λΔ ρ fp σ Q X Q' H env h k N=>h.elim
 | .attr _ _=>Ai
 | .cnt _ a=>AI<|bj a
 | .mcall _ o l=>v9 (bj o)<|cP l
theorem cP:∀es:List E,DOKs G cv es
 |[]=>λΔ ρ fp σ Q X Q' H env h k N=>k _ _ _ _ h (.refl σ) .nil
 |e::es=>λΔ ρ fp σ Q X Q' H env h k N=>bj e Δ ρ fp σ _ X _ H env h (λd t v σ1 F h r=>
   cP es Δ ρ fp σ1 _ X _ H (env.ext r.ext) h (λds vs σ2 i h x s=>k _ _ _ _ h (r.ext.trans x) (nV env r x s)) λc ds ws σ' F q x=>N c ds ws σ' F q (x.from r.ext)) N
end
end
set_option genCtorIdx false in
inductive DFl where
 |next
 |ret(d:D)(b:Bool)
abbrev bY:=DFl->DRho->Prop
abbrev DSX:=String->List D->DRho->Prop
noncomputable def locOf:E->Option String
 | .loc x=>Ja x
 |_=>Jb
def tN(G:Gx)(f:String)(L:DRho)(x:String)(Q:D->DRho->Prop):D×Bool->Prop
 |(.exc c l,Jc)=>oNat (λj=>dOD (λd=>Q d (L.put x (.exc c (l.set j .hole),Jc))) l[j]?) ((G.flds c).idxOf? f)
 |_=>False
mutual
noncomputable def dwm(G:Gx)(c:DCl):E->DRho->(D->DRho->Prop)->Prop
 | .loc x,L,Q=>dOE (λp=>cond p.1.atom (Q p.1 L) (p.2=Jc/\Q p.1 (L.put x (.hole,Jc)))) (L.get x)
 | .tup l,L,Q=>dwms G c l L (λds P=>ds.length<=lim/\Q (.tup ds) P)
 | .attr x f,L,Q=>dOE (λp=>tN G f L x Q p) (L.get x)
 |e,L,Q=>dwe G c e L (λd t=>t=Jb/\Q d L) λo0 o0=>False
noncomputable def dwms(G:Gx)(c:DCl):List E->DRho->(List D->DRho->Prop)->Prop
 |[],L,Q=>Q [] L
 |e::es,L,Q=>dwm G c e L (λd i=>dwms G c es i (λds J=>Q (d::ds) J))
end
noncomputable def isScr:D->Bool
 | .scr _=>Jc
 |_=>Jd
noncomputable def dpath(G:Gx)(c:DCl):E->DRho->(String->List D->D->Prop)->DX->Prop
 | .loc x,L,Q,_=>dOE (λp=>p.2=Jc/\Q x [] p.1) (L.get x)
 | .sub a i,L,Q,X=>dpath G c a L (λx s n=>dwe G c i L (λj o0=>isScr n=Jd/\dOD (λd=>Q x (s++[j]) d) (dsub n j)) X) X
 |_,_,_,_=>False
def dset1(i:D)(f:D->Option D):D->Option D
 | .list l=>match i with
  | .int n=>(place l.length n).bind λj=>(l[j]?).bind λx=>(f x).map λy=> .list (l.set j y)
  |_=>Jb
 | .tup l=>match i with
  | .int n=>(place l.length n).bind λj=>(l[j]?).bind λx=>(f x).map λy=> .tup (l.set j y)
  |_=>Jb
 | .dict s l=>(keyD i).bind λk=>(kidx s k).bind λj=>(l[j]?).bind λx=>(f x).map λy=> .dict s (l.set j y)
 |_=>Jb
noncomputable def updp:List D->(D->Option D)->D->Option D
 |[],f=>f
 |i::is,f=>dset1 i<|updp is f
def dput(L:DRho)(x:String)(ps:List D)(dn':D)(K:DRho->Prop):Prop:=
 dOE (λp=>dOD (λd=>K<|L.put x (d,Jc))<|updp ps (λo0=>Ja dn') p.1) (L.get x)
noncomputable def donFl(K:DRho->Prop)(Q:bY):bY
 | .next,L=>K L
 | .ret d b,L=>Q (.ret d b) L
noncomputable def fH(tg:Tg)(body:DRho->bY->Prop)(Q:bY):List D->DRho->Prop
 |[],L=>Q .next L
 |x::s,L=>dOR (λP=>body P (donFl (λJ=>fH tg body Q s J) Q)) (dW tg x x.atom L)
def dmeth(m:Me)(args:List D)(n:D)(K:D->Prop):Prop:=
 match m with
 | .append=>match args with
  |[d]=>dLst (λl=>l.length<lim/\K (.list<|l++[d])) n
  |_=>False
def drecv(m:Me)(d:D):Prop:=
 match m with
 |_=>dLst (λo0=>True) d
noncomputable def ownD:Option (D×Bool)->Bool
 |some (d,b)=> !d.atom&&b
 |none=>Jd
def splO(L:DRho)(r:List E)(k:Option (List E×String×List E)):Option String->Option (List E×String×List E)
 |some x=>cond (ownD<|L.get x) (Ja ([],x,r)) k
 |none=>k
noncomputable def spl(L:DRho):List E->Option (List E×String×List E)
 |[]=>Jb
 |e::r=>splO L r ((spl L r).map λq=>(e::q.1,q.2)) (locOf e)
def offT(x:String):Tag->Bool
 |none=>Jc
 |some s=> !hasS s x
def offs(x:String)(vs:List (D×Tag)):Bool:=vs.all λp=>offT x p.2
noncomputable abbrev lent(vs:List (D×Tag)):List (D×Bool):=vs.map λp=>(p.1,Jd)
def dio(G:Gx)(c:DCl)(f:String)(L:DRho)(K:DRho->Prop):Option (List E×String×List E)->Prop
 |some (a,x,b)=>G.fn f=Jc/\dwes G c a L (λv=>offs x v=Jc/\dOE (λp=>p.2=Jc/\dwes G c b L (λq=>offs x q=Jc/\
   c.io f v.length (lent v++(p.1,Jc)::lent q) λd=>K (L.put x (d,Jc))) λo0 o0=>False) (L.get x)) λo0 o0=>False
 |none=>False
def dsetI(n i d:D)(K:D->Prop):Prop:=
 match n with
 | .list l=>dInt (λk=>oNat (λj=>K (.list (l.set j d))) (place l.length k)) i
 | .dict s l=>l.length<lim/\oK (λk=>K (dkset s l k d)) (keyD i)
 |_=>False
def dens(ks:List (List KA))(l:List D)(k:List KA):D:=match dlook ks l k with
 |some _=> .dict ks l
 |none=> .dict (ks++[k]) (l++[.list []])
def dsd(G:Gx)(c:DCl)(m:Me)(args:List E)(L:DRho)(K:DRho->Prop)(x:String)(k:E):Prop:=
 dOE (λp=>p.2=Jc/\dDct (λs l=>dwe G c k L (λj o0=>l.length<lim/\oK (λkey=>(λZ=>dOD (λr=>drecv m r/\dwes G c args (L.put x (Z,Jc)) (λv=>tjs v=Jb/\dmeth m (fsts v) r λn=>dOD (λd=>K<|L.put x (d,Jc))<|dset1 j (λo0=>Ja n) Z) λo0 o0=>False)<|dsub Z j)<|dens s l key) (keyD j)) λo0 o0=>False) p.1) (L.get x)
noncomputable def sdOf:E->Option (E×E)
 | .sd a k=>Ja (a,k)
 |_=>Jb
noncomputable def dsdL(G:Gx)(c:DCl)(m:Me)(args:List E)(L:DRho)(K:DRho->Prop)(k:E):Option String->Prop
 |some x=>dsd G c m args L K x k
 |none=>False
noncomputable def rootC:E->Bool
 | .sub a _=>rootC a
 | .call .. =>Jc
 |_=>Jd
def dtmp(G:Gx)(c:DCl)(m:Me)(args:List E)(L:DRho)(K:DRho->Prop)(o:E):Prop:=
 dwe G c o L (λd t=>t=Jb/\drecv m d/\dwes G c args L (λv=>dmeth m (fsts v) d λo0=>K L) λo0 o0=>False) λo0 o0=>False
def dmeE(G:Gx)(c:DCl)(m:Me)(args:List E)(L:DRho)(K:DRho->Prop)(o:E):Option String->Option (E×E)->Prop
 |some x,_=>dOE (λp=>drecv m p.1) (L.get x)/\dwms G c args L (λf i=>dOE (λp=>p.2=Jc/\dmeth m f p.1 λd=>K (i.put x (d,Jc))) (i.get x))
 |none,Ja a=>dsdL G c m args L K a.2<|locOf a.1
 |none,Jb=>cond (rootC o) (dtmp G c m args L K o) (dpath G c o L (λx s r=>drecv m r/\dwes G c args L (λv=>tjs v=Jb/\dmeth m (fsts v) r λn=>dput L x s n K) λo0 o0=>False) λo0 o0=>False)
def dexpr(G:Gx)(M:DCl):E->DRho->(DRho->Prop)->DSX->Prop
 | .meth o m args,L,K,X=>dmeE G M m args L K o (locOf o)<|sdOf o
 | .call f args,L,K,X=>dio G M f L K (spl L args)\/dwe G M (.call f args) L (λo0 o0=>K L) λc l=>X c l L
 |e,L,K,X=>dwe G M e L (λo0 o0=>K L) λc l=>X c l L
mutual
noncomputable def S.noas(x:String):S->Bool
 | .assign tg _=> !tg.names.contains x
 | .if_ _ b o=>S.noass x b&&S.noass x o
 | .for_ tg _ _ b=> !tg.names.contains x&&S.noass x b
 | .while_ _ b=>S.noass x b
 | .try1 .. =>Jd
 |_=>Jc
noncomputable def S.noass(x:String):List S->Bool
 |[]=>Jc
 |s::r=>S.noas x s&&S.noass x r
end
noncomputable def dwhGo(tst:DRho->(Bool->Prop)->Prop)(body:DRho->bY->Prop)(Q:bY):Nat->DRho->Prop
 |0,_=>False
 |n+1,L=>tst L λb=>cond b (body L (donFl (λJ=>dwhGo tst body Q n J) Q)) (Q .next L)
mutual
noncomputable def dws(G:Gx)(M f:DCl):S->DRho->bY->DSX->Prop
 | .assign (.name x) e,L,Q,X=>dwe G M e L (λd t=>Q .next ((L.frz t).put x (d,t.isNone))) λc l=>X c l L
 | .assign (.tup xs) e,L,Q,X=>dwe G M e L (λd t=>dOR (λP=>Q .next P) (dW (.tup xs) d t.isNone (L.frz t))) λc l=>X c l L
 | .setIdx o i e,L,Q,X=>dwm G M e L (λd u=>dpath G M o u (λx ps n=>dwe G M i u (λj o0=>dsetI n j d λdn'=>dput u x ps dn' λP=>Q .next P) λo0 o0=>False) λo0 o0=>False)
 | .expr e,L,Q,X=>dexpr G M e L (λP=>Q .next P) X
 | .ret e,L,Q,X=>dwm G M e L (λd P=>Q (.ret d Jc) P)\/dwe G M e L (λd t=>Q (.ret d t.isNone) L) λc l=>X c l L
 | .if_ t b o,L,Q,X=>dwe G M t L (λv o0=>dBool (λc=>cond c (dwss G M f b L Q X) (dwss G M f o L Q X)) v) λc l=>X c l L
 | .for_ tg k g b,L,Q,X=>(k.isZ=Jd\/G.calm=Jc)/\dwes G M g L (λvs=>dsrc k (fsts vs) λxs=>fH tg (λL K=>dwss G M f b L K λo0 o0 o0=>False) Q xs (L.frz (tjs vs))) λc l=>X c l L
 | .while_ t b,L,Q,X=>G.calm=Jc/\∃k,dwhGo (λL K=>dwe G M t L (λv o0=>dBool K v) λc l=>X c l L) (λL K=>dwss G M f b L K X) Q k L
 | .raise c args,L,_,X=>(G.full=Jc/\G.calm=Jc/\(G.mks.contains c=Jc\/(G.inis.contains c=Jc/\args.length=(G.flds c).length)))/\dwes G M args L (λvs=>tjs vs=Jb/\X c ((fsts vs).take (G.flds c).length) L) λc l=>X c l L
 | .try1 b c x h,L,Q,_=>(G.full=Jc/\G.calm=Jc/\G.cs.contains c=Jc)/\dwss G M f b L Q λe es u=>
   if G.sub e c then dwss G.un f f h (if x="" then u else u.put x (.exc e es,Jc)) (λfl J=>Q fl<|if x="" then J else J.wipe) λo0 o0 o0=>False
   else False
noncomputable def dwss(G:Gx)(M f:DCl):List S->DRho->bY->DSX->Prop
 |[],L,Q,_=>Q .next L
 |s::r,L,Q,X=>dws G M f s L (donFl (λu=>dwss G M f r u Q X) Q) X
end
structure DSrc where
 S:Jg->Prop
 pin:String->Option PV
instance:CoeFun DSrc λo0=>Jg->Prop:=⟨DSrc.S⟩
structure Inv(N:PH)(S:DSrc)(P:List Jg)(Δ:DRho)(ρ:Rho)(σ:PH)(fp:String->List Jg):Prop where
 env:EnvE σ Δ ρ fp
 sep:∀x d,Δ.get x=Ja (d,Jc)->∀y,y≠x->Disj (fp x) (fp y)
 own:∀x d,Δ.get x=Ja (d,Jc)->(fp x).Nodup/\∀a∈fp x,N a=Jb
 src:∀x,∀a∈fp x,S a
 kept:Ext N σ
 pend:∀a∈P,(∃l:MO,σ a=Ja l.1)/\∀x,a∉fp x
 newS:∀a,N a=Jb->S a
 pin:∀x v,S.pin x=Ja v->ρ.get x=Ja v
theorem Rho.gget_mem:∀ρ:Rho,ρ.get x=Ja v->x∈keysR ρ
 |(y,o)::r,h=>by
  by_cases W:y=x
  ·subst W;exact .head _
  ·simp only[Rho.get_c,W,if_false] at h;exact .tail _<|Rho.gget_mem r h
section
variable{N σ σ':PH}{S:DSrc}{P:List Jg}{Δ:DRho}{ρ:Rho}{fp:String->List Jg}
theorem Inv.ext(h:Inv N S P Δ ρ σ fp)(x:Ext σ σ'):Inv N S P Δ ρ σ' fp:=
 ⟨h.env.ext x,h.sep,h.own,h.src,h.kept.trans x,λa T=>by obtain⟨⟨l,e⟩,p⟩:=h.pend a T;exact⟨⟨l,x a _ e⟩,p⟩,h.newS,h.pin⟩
theorem Inv.weak(h:Inv N S P Δ ρ σ fp)(k:∀a∈P',a∈P):Inv N S P' Δ ρ σ fp:=⟨h.env,h.sep,h.own,h.src,h.kept,λa T=>h.pend a (k a T),h.newS,h.pin⟩
theorem Inv.put(h:Inv N S P Δ ρ σ fp){d:D}{F:List Jg}(r:RdF σ d v F)(H:b=Jc->(F.Nodup/\∀a∈F,N a=Jb)/\∀y,y≠x->Disj F (fp y))
  (o:∀y e,y≠x->Δ.get y=Ja (e,Jc)->Disj (fp y) F)(s:∀a∈F,S a)(p:∀a∈P,a∉F)(n:∀w,S.pin x=Ja w->v=w):Inv N S P (Δ.put x (d,b)) (ρ.put x v) σ (fset fp x F):=by
 have g:∀e,(Δ.put x (d,b)).get x=Ja (e,Jc)->b=Jc:=λe q=>by
  have m:=DRho.get_mem _ q;rw[DRho.put_keys] at m;rw[DRho.get_put _ m] at q;cases q;rfl
 refine⟨h.env.put r,λy e q z R=> ?_,λy e q=> ?_,λy a T=> ?_,h.kept,λa T=>⟨(h.pend a T).1,λy W=> ?_⟩,h.newS,λy w q=> ?_⟩
 ·by_cases W:y=x
  ·subst W;have:=g e q;rw[c6,ct R];exact(H this).2 z R
  ·rw[DRho.get_put_ne W] at q;rw[ct W];by_cases f:z=x
   ·subst f;rw[c6];exact o y e W q
   ·rw[ct f];exact h.sep y e q z R
 ·by_cases W:y=x
  ·subst W;rw[c6];exact(H<|g e q).1
  ·rw[DRho.get_put_ne W] at q;rw[ct W];exact h.own y e q
 ·by_cases W:y=x
  ·subst W;rw[c6] at T;exact s a T
  ·rw[ct W] at T;exact h.src y a T
 ·by_cases Q:y=x
  ·subst Q;rw[c6] at W;exact p a T W
  ·rw[ct Q] at W;exact(h.pend a T).2 y W
 ·by_cases W:y=x
  ·subst W;rw[Rho.gput _ (Rho.gget_mem _<|h.pin y w q),n w q]
  ·rw[Rho.gput_ne W];exact h.pin y w q
structure MOK(N:PH)(P:List Jg)(fp:String->List Jg)(F:List Jg):Prop where
 nd:F.Nodup
 own:∀a∈F,N a=Jb
 out:∀a∈F,∀y,a∉fp y
 pend:Disj P F
theorem MOK.nil:MOK N P fp []:=⟨.nil,λa h=>(bQ h),λa h=>(bQ h),λa o0 h=>(bQ h)⟩
theorem DRho.get_map(f:String->D×Bool->D×Bool)(x:String):∀Δ:DRho,DRho.get (Δ.map λp=>(p.1,p.2.map (f p.1))) x=(Δ.get x).map (f x)
 |[]=>rfl
 |(y,o)::r=>by
  by_cases h:y=x
  ·subst h;simp only[Qo,DRho.get_if,if_true]
  ·simp only[Qo,DRho.get_if,h,if_false];exact DRho.get_map f x r
theorem uv(Δ:DRho)(xs:List String):Δ.frz (Ja xs)=Δ.map λp=>(p.1,p.2.map λq=>if xs.contains p.1 then(q.1,q.1.atom&&q.2) else q):=by
 refine Qs λp o0=> ?_;rw[mQ]
 induction xs.contains p.1 with
 |true=>rfl
 |false=>exact Uk (Prod.mk p.1) (congrFun Option.map_id p.2).symm
theorem Inv.map(h:Inv N S P Δ ρ σ fp)(f:String->D×Bool->D×Bool)(j:∀x q,(f x q).1=q.1/\((f x q).2=Jc->q.2=Jc)):Inv N S P (Δ.map λp=>(p.1,p.2.map (f p.1))) ρ σ fp:=by
 have g:∀x d b,DRho.get (Δ.map λp=>(p.1,p.2.map<|f p.1)) x=Ja (d,b)->∃c,Δ.get x=Ja (d,c)/\(b=Jc->c=Jc)/\f x (d,c)=(d,b):=λx d b e=>by
  rw[DRho.get_map] at e;obtain⟨⟨X,c⟩,T,w⟩:=Qu.mp e;have E:=(j x (X,c)).1;have Y:=(j x (X,c)).2;rw[w] at E Y;cases E;exact⟨c,T,Y,w⟩
 refine⟨⟨λx d b e=> ?_,h.env.dom,?_⟩,λx d e=> ?_,λx d e=> ?_,h.src,h.kept,h.pend,h.newS,h.pin⟩
 ·obtain⟨c,T,o0⟩:=g x d b e;exact h.env.at_ x d c T
 ·rw[<-h.env.keys,QB];rfl
 ·obtain⟨c,T,w,o0⟩:=g x d Jc e;cases w rfl;exact h.sep x d T
 ·obtain⟨c,T,w,o0⟩:=g x d Jc e;cases w rfl;exact h.own x d T
theorem Inv.frz(h:Inv N S P Δ ρ σ fp)(t:Tag):Inv N S P (Δ.frz t) ρ σ fp:=by
 induction t with
 |none=>exact h
 |some s=>
  rw[uv];refine h.map (λx q=>if s.contains x then(q.1,q.1.atom&&q.2) else q) λx q=> ?_;by_cases hx:s.contains x=Jc
  ·rw[Uh hx];exact⟨rfl,λe=>(Qh.mp e).2⟩
  ·rw[Ug hx];exact⟨rfl,id⟩
theorem jz(x:String):∀Δ:DRho,Δ.wipe.get x=Jb
 |[]=>rfl
 |(y,o)::r=>by
  by_cases h:y=x
  ·subst h;simp[DRho.wipe,DRho.get_if]
  ·simp only[DRho.wipe,Qo,DRho.get_if,h,if_false];exact jz x r
theorem Inv.wipe(h:Inv N S P Δ ρ σ fp)(n:∀x,S.pin x=Jb):Inv N S P Δ.wipe ρ.wipe σ (λo0=>[]):=
 ⟨⟨λx d b e=>(by rw[jz] at e;exact ns e),λx a T=>(bQ T),(by simp only[DRho.wipe,Rho.wipe,QB];exact h.env.keys)⟩,λx d e=>(by rw[jz] at e;exact ns e),λx d e=>(by rw[jz] at e;exact ns e),
  λx a T=>(bQ T),h.kept,λa T=>⟨(h.pend a T).1,λx hx=>(bQ hx)⟩,h.newS,λx v q=>(by exact ns ((n x).symm.trans q))⟩
end
theorem Rho.put_self:∀ρ:Rho,ρ.get x=Ja v->ρ.put x v=ρ
 |(y,o)::r,h=>by
  by_cases W:y=x
  ·simp only[Rho.get_c,W,if_true] at h;simp only[Rho.put_c,W,if_true,h]
  ·simp only[Rho.get_c,W,if_false] at h;simp only[Rho.put_c,W,if_false,Rho.put_self r h]
theorem set_same{L:Type}{l:List L}{j:Nat}{p:L}(h:l[j]? =Ja p):l.set j p=l:=by
 refine WI λi=> ?_;rw[Wo]
 split
 ·subst_vars
  rw[h];split
  ·rfl
  ·rename_i t;exact ns<|(KX<|by exact Kd.mp t).symm.trans h
 ·rfl
theorem RdFs.split:∀ {ds:List D} {l:List PV} {F:List Jg},RdFs σ ds l F->∀ (j:Nat) (d:D),ds[j]? =Ja d->X4 λp A B y=>A4 (l[j]? =Ja p) (F=A++(y++B)) (RdF σ d p y) (∀σ' d' q I,Ag A σ σ'->Ag B σ σ'->RdF σ' d' q I->RdFs σ' (ds.set j d') (l.set j q) (A++(I++B)))
 |d::ds,l,F,a,0,e,O=>by
  obtain⟨p,s,Q,t,E,Y,h,w⟩:=a;subst E Y;obtain rfl:=sj O;exact⟨p,[],t,Q,rfl,rfl,h,λσ' d' q I o0 ag r=>⟨q,s,I,t,rfl,rfl,r,w.ag ag⟩⟩
 |d::ds,l,F,a,j+1,e,O=>by
  obtain⟨p,s,Q,t,E,Y,h,w⟩:=a;subst E Y;obtain⟨q,A,B,y,k,U,V,R⟩:=RdFs.split w j e O;subst U;refine⟨q,Q++A,B,y,k,(KI _ _ _).symm,V,λσ' d' q I g b r=> ?_⟩;exact⟨p,s.set j q,Q,A++(I++B),rfl,KI _ _ _,h.ag g.left,R σ' d' q I g.right b r⟩
section
variable{N σ σ':PH}{S:DSrc}{P:List Jg}{Δ:DRho}{ρ:Rho}{fp:String->List Jg}
theorem Ag.refl:Ag F σ σ:=⟨λo0 o0=>rfl,λo0 o0 e o0=>e⟩
theorem Ag.trans(x:Ag F a b)(y:Ag F b c):Ag F a c:=⟨λp h=>(y.at_ p h).trans (x.at_ p h),λp o e k=>y.oth p o (x.oth p o e k) k⟩
theorem Inv.agP(h:Inv N S P Δ ρ σ fp)(x:Ext σ σ'):Ag P σ σ':= .of_ext x λa T=>(h.pend a T).1
theorem Inv.new0(h:Inv N S P Δ ρ σ fp)(e:σ a=Jb):N a=Jb:=h.kept.new e
theorem Inv.move(h:Inv N S P Δ ρ σ fp){d d':D}(e:Δ.get x=Ja (d,Jc))(X:ρ.get x=Ja v)(r:RdF σ d' v (A++B))(J:fp x=A++(F++B)):
  Inv N S P (Δ.put x (d',Jc)) ρ σ (fset fp x<|A++B)/\MOK N P (fset fp x<|A++B) F:=by
 obtain⟨nd,o⟩:=h.own x d e;rw[J] at nd o;have sub:∀a,a∈A++B->a∈fp x:=λa T=>by
  rw[J]
  rcases Qr.mp T with q|q
  ·exact Qj _ q
  ·exact Qe _<|Qe _ q
 have s:∀a,a∈F->a∈fp x:=λa T=>by rw[J];exact Qe _<|Qj _ T
 have n:=Qv.mp nd;have K:=Qv.mp n.2.1;have i:=h.put (x:=x) (b:=Jc) r (λo0=>⟨⟨Qv.mpr ⟨n.1,K.2.1,λa T b R=>n.2.2 a T b<|Qe _ R⟩,λa T=>(h.own x d e).2 a (sub a T)⟩,λy W a T=>h.sep x d e y W a<|sub a T⟩)
  (λy g W q a T R=>h.sep y g q x (λz=>W z.symm) a T<|sub a R) (λa T=>h.src x a<|sub a T) (λa T R=>(h.pend a T).2 x (sub a R)) (λw q=>by have:=h.pin x w q;obtain rfl:=sj<|X.symm.trans this;rfl)
 rw[Rho.put_self _ X] at i;refine⟨i,⟨K.1,λa T=>(h.own x d e).2 a (s a T),λa T y W=> ?_,λa T R=>(h.pend a T).2 x (s a R)⟩⟩;by_cases q:y=x
 ·subst q;rw[c6] at W
  rcases Qr.mp W with q|q
  ·exact n.2.2 a q a (Qj _ T) rfl
  ·exact K.2.2 a T a q rfl
 ·rw[ct q] at W;exact h.sep x d e y q a (s a T) W
theorem Inv.fresh(h:Inv N S P Δ ρ σ fp)(p:PartOK σ fp t F)(e:t=Jb):MOK N P fp F:=
 ⟨(p.own e).1,λa T=>h.new0<|(p.own e).2 a T,λa T y W=>(by obtain⟨l,q⟩:=h.env.dom y a W;exact ns<|((p.own e).2 a T).symm.trans q),λa T b=>(by obtain⟨⟨l,q⟩,_⟩:=h.pend a T;exact ns<|((p.own e).2 a b).symm.trans q)⟩
end
section
variable(G:Gx)(cv:Cl)
def MDOK(e:E):Prop:=∀ (N:PH) (S:DSrc) (P:List Jg) (Δ:DRho) (ρ:Rho) (fp:String->List Jg) (σ:PH) (Q:D->DRho->Prop) (r:Post) (X:XPost),Inv N S P Δ ρ σ fp->dwm G (aR cv) e Δ Q->
 (∀d H f v σ' F,Q d H->Inv N S P H ρ σ' f->RdF σ' d v F->MOK N P f F->Ag P σ σ'->r v σ')->we G cv e ρ σ r X
def MDOKs(es:List E):Prop:=∀ (N:PH) (S:DSrc) (P:List Jg) (Δ:DRho) (ρ:Rho) (fp:String->List Jg) (σ:PH) (Q:List D->DRho->Prop) (r:List PV->PH->Prop) (X:XPost),Inv N S P Δ ρ σ fp->dwms G (aR cv) es Δ Q->
 (∀s H f v σ' F,Q s H->Inv N S P H ρ σ' f->ArgsR σ' (s.map λd=>(d,Jc)) v F->MOK N P f F.flatten->Ag P σ σ'->r v σ')->wes G cv es ρ σ r X
end
section
variable{G:Gx}{cv:Cl}
theorem bU(O:DOK G cv e){S:DSrc}{fp:String->List Jg}{Q:D->DRho->Prop}(i:Inv N S P Δ ρ σ fp)
  (h:dwe G (aR cv) e Δ (λd t=>t=Jb/\Q d Δ) λo0 o0=>False)(k:∀d H f v σ' F,Q d H->Inv N S P H ρ σ' f->RdF σ' d v F->MOK N P f F->Ag P σ σ'->Q' v σ'):we G cv e ρ σ Q' X:=
 O Δ ρ fp σ _ _ Q' X i.env h (λd t v σ' F q r=>k d Δ fp v σ' F q.2 (i.ext r.ext) r.rd (i.fresh r.part q.1)<|i.agP r.ext) λo0 o0 o0 o0 o0 q o0=>q.elim
theorem AQ:MDOK G cv (.loc x):=λN S P Δ ρ fp σ Q t X i h k=>by
 obtain⟨⟨d,b⟩,e,h⟩:=dH (show dOE (λp=>cond p.1.atom (Q p.1 Δ)<|p.2=Jc/\Q p.1 (Δ.put x (.hole,Jc))) (Δ.get x) from h);obtain⟨v,g,r⟩:=i.env.at_ x d b e;show oV _ (ρ.get x);rw[g];show t v σ
 induction a:d.atom with
 |true=>
  simp only[a,cond_true] at h;refine k d Δ fp v σ [] h i ?_ .nil .refl;rw[r.atom a] at r;exact r
 |false=>
  simp only[a,cond_false] at h;obtain⟨rfl,h⟩:=h;obtain⟨w,m⟩:=i.move (d':= .hole) (A:=[]) (B:=[]) (F:=fp x) e g rfl (by rw[QO,KN]);exact k d _ _ v σ (fp x) h w r m .refl
theorem j6(h:locOf a=Ja x):a= .loc x:=by
 induction a using E.casesOn with
 |loc y=>obtain rfl:=sj h;rfl
 |_=>first|exact bnx h|exact onx h|cases h
theorem Aj{x f:String}:MDOK G cv (.attr x f):=λN S P Δ ρ fp σ Q t X i h k=>by
 obtain⟨⟨d,b⟩,e,h⟩:=dH (show dOE (λp=>tN G f Δ x Q p) (Δ.get x) from h)
 induction d using D.casesOn with
 |exc c l=>
  induction b with
  |false=>exact h.elim
  |true=>
   obtain⟨j,H,h⟩:=gE h;obtain⟨y,s,q⟩:=fY h;obtain⟨v,W,a,Z,m,rfl,M,r⟩:=i.env.at_ x _ _ e;obtain⟨p,A,B,F,o,U,J,g⟩:=r.split j y s
   rcases M with⟨T,w⟩|⟨T,rfl⟩
   rotate_left
   ·exact ns o
   have K:pattr G σ f (.ref a)=Ja p:=by
    show pfld G σ f (σ a)=_;rw[T];show pfd G f (σ Z)=_;rw[w];exact Qn.mpr ⟨j,H,o⟩
   show oV _ (ρ.get x);rw[W];show oV _ (pattr G σ f<|.ref a);rw[K];have z:RdF σ (.exc c<|l.set j .hole) (.ref a) (A++B):=by
    have:=g σ .hole p [] .refl .refl rfl;rw[set_same o] at this;exact⟨a,Z,m,rfl,.inl ⟨T,w⟩,this⟩
   obtain⟨n,mk⟩:=i.move e W z U;exact k y _ _ p σ F q n J mk .refl
 |_=>exact h.elim
theorem A0(T:MDOKs G cv l):MDOK G cv (.tup l):=λN S P Δ ρ fp σ Q t X i h k=>
 T N S P Δ ρ fp σ _ _ X i h λs H f v σ' F q w r m ag=>by
  have K:RdFs σ' s v F.flatten:=by
   clear q m w ag h T k
   induction s generalizing v F with
   |nil=>cases r;exact⟨rfl,rfl⟩
   |cons d s W=>cases r with|cons B M y u=>exact⟨_,_,_,_,rfl,rfl,B,W _ _ u⟩
  exact k _ _ _ _ _ _ q.2 w ⟨v,rfl,by rw[K.len];exact q.1,K⟩ m ag
theorem ArgsR.lens{ds:List (D×Bool)}{vs:List PV}{F:List (List Jg)}(h:ArgsR σ ds vs F):vs.length=ds.length/\F.length=ds.length:=by
 induction h with
 |nil=>exact⟨rfl,rfl⟩
 |cons r p q h i=>exact⟨Uk (· +1) i.1,Uk (· +1) i.2⟩
theorem Inv.called{S:DSrc}{fp:String->List Jg}(i:Inv N S P Δ ρ σ fp)(m:MOK N P fp M)(Z:∀a∈M,∃l:MO,σ a=Ja l.1)(k:jt M σ σ'):
  Inv N S P Δ ρ σ' fp/\Ag P σ σ':=by
 have ag:∀F:List Jg,(∀a∈F,(∃l:MO,σ a=Ja l.1)/\a∉M)->Ag F σ σ':=λF J=>⟨λa h=>by
   obtain⟨⟨l,e⟩,c⟩:=J a h;exact(k a _ e c).trans e.symm,λa o e n=>k a o e λq=>by
   obtain⟨l,A⟩:=Z a q;obtain rfl:=sj (e.symm.trans A);exact ft (l.2.symm.trans n)⟩
 have g:∀x,Ag (fp x) σ σ':=λx=>ag _ λa h=>⟨i.env.dom x a h,λq=>m.out a q x h⟩
 have agP:Ag P σ σ':=ag _ λa h=>⟨(i.pend a h).1,m.pend a h⟩
 refine⟨⟨⟨λx d b e=> ?_,λx a h=> ?_,i.env.keys⟩,i.sep,i.own,i.src,λa o e=> ?_,λa h=>⟨?_,(i.pend a h).2⟩,i.newS,i.pin⟩,agP⟩
 ·obtain⟨v,E,p⟩:=i.env.at_ x d b e;exact⟨v,E,p.ag<|g x⟩
 ·obtain⟨l,e⟩:=i.env.dom x a h;exact⟨l,((g x).at_ a h).trans e⟩
 ·refine k a o (i.kept a o e) λC=> ?_;exact ns<|(m.own a C).symm.trans e
 ·obtain⟨l,e⟩:=(i.pend a h).1;exact⟨l,(agP.at_ a h).trans e⟩
theorem yK(A:MDOK G cv e)(V:MDOKs G cv es):MDOKs G cv (e::es):=λN S P Δ ρ fp σ Q t X i h k=>
 A N S P Δ ρ fp σ _ _ X i h λd u W v j F Y w B c r=>
  V N S (F++P) u ρ W j _ _ X ⟨w.env,w.sep,w.own,w.src,w.kept,λa T=>by
   rcases Qr.mp T with T|T
   ·exact⟨B.dom a T,c.out a T⟩
   ·exact w.pend a T,w.newS,w.pin⟩ Y λz J H I O s K l M m g=>by
  have U:Disj F s.flatten:=λa T R=>m.pend a (Qj _ T) R;refine k _ J H _ O (F::s) K (l.weak λa T=>Qe _ T) (.cons (B.ag g.left) (λo0=>c.nd) (λp D o0 a T R=> ?_) M) ⟨?_,?_,?_,?_⟩<|r.trans g.right
  ·exact U a T<|List.mem_flatten.mpr ⟨p.2,(Kr D).2,R⟩
  ·exact Qv.mpr ⟨c.nd,m.nd,λa T b R q=>U a T<|q▸R⟩
  ·intro a T
   rcases Qr.mp T with T|T
   ·exact c.own a T
   ·exact m.own a T
  ·intro a T y x
   rcases Qr.mp T with T|T
   ·exact(l.pend a<|Qj _ T).2 y x
   ·exact m.out a T y x
  ·intro a T f
   rcases Qr.mp f with f|f
   ·exact c.pend a T f
   ·exact m.pend a (Qe _ T) f
mutual
theorem pX:∀e:E,MDOK G cv e
 | .loc _=>AQ
 | .sub .. =>λo0 o0 o0 o0 o0 o0 o0 o0 o0 o0 i h k=>bU (bj _) i h k
 | .tup l=>A0<|nO l
 | .call .. =>λo0 o0 o0 o0 o0 o0 o0 o0 o0 o0 i h k=>bU (bj _) i h k
 | .none=>λo0 o0 o0 o0 o0 o0 o0 o0 o0 o0 i h k=>bU (bj _) i h k
 | .bool _=>λo0 o0 o0 o0 o0 o0 o0 o0 o0 o0 i h k=>bU (bj _) i h k
 | .int _=>λo0 o0 o0 o0 o0 o0 o0 o0 o0 o0 i h k=>bU (bj _) i h k
 | .str _=>λo0 o0 o0 o0 o0 o0 o0 o0 o0 o0 i h k=>bU (bj _) i h k
 | .glob _=>λo0 o0 o0 o0 o0 o0 o0 o0 o0 o0 i h k=>bU (bj _) i h k
 | .bin .. =>λo0 o0 o0 o0 o0 o0 o0 o0 o0 o0 i h k=>bU (bj _) i h k
 | .not_ _=>λo0 o0 o0 o0 o0 o0 o0 o0 o0 o0 i h k=>bU (bj _) i h k
 | .and_ .. =>λo0 o0 o0 o0 o0 o0 o0 o0 o0 o0 i h k=>bU (bj _) i h k
 | .or_ .. =>λo0 o0 o0 o0 o0 o0 o0 o0 o0 o0 i h k=>bU (bj _) i h k
 | .isNone _=>λo0 o0 o0 o0 o0 o0 o0 o0 o0 o0 i h k=>bU (bj _) i h k
 | .notNone _=>λo0 o0 o0 o0 o0 o0 o0 o0 o0 o0 i h k=>bU (bj _) i h k
 | .cmp .. =>λo0 o0 o0 o0 o0 o0 o0 o0 o0 o0 i h k=>bU (bj _) i h k
 | .cmp2 .. =>λo0 o0 o0 o0 o0 o0 o0 o0 o0 o0 i h k=>bU (bj _) i h k
 | .list _=>λo0 o0 o0 o0 o0 o0 o0 o0 o0 o0 i h k=>bU (bj _) i h k
 | .upto .. =>λo0 o0 o0 o0 o0 o0 o0 o0 o0 o0 i h k=>bU (bj _) i h k
 | .from_ .. =>λo0 o0 o0 o0 o0 o0 o0 o0 o0 o0 i h k=>bU (bj _) i h k
 | .comp .. =>λo0 o0 o0 o0 o0 o0 o0 o0 o0 o0 i h k=>bU (bj _) i h k
 | .compIf .. =>λo0 o0 o0 o0 o0 o0 o0 o0 o0 o0 i h k=>bU (bj _) i h k
 | .bi .. =>λo0 o0 o0 o0 o0 o0 o0 o0 o0 o0 i h k=>bU (bj _) i h k
 | .isi .. =>λo0 o0 o0 o0 o0 o0 o0 o0 o0 o0 i h k=>bU (bj _) i h k
 | .meth .. =>λo0 o0 o0 o0 o0 o0 o0 o0 o0 o0 i h k=>bU (bj _) i h k
 | .dict0=>λo0 o0 o0 o0 o0 o0 o0 o0 o0 o0 i h k=>bU (bj _) i h k
 | .get .. =>λo0 o0 o0 o0 o0 o0 o0 o0 o0 o0 i h k=>bU (bj _) i h k
 | .sd .. =>λo0 o0 o0 o0 o0 o0 o0 o0 o0 o0 i h k=>bU (bj _) i h k
 | .cnt .. =>λo0 o0 o0 o0 o0 o0 o0 o0 o0 o0 i h k=>bU (bj _) i h k
 | .mcall .. =>λo0 o0 o0 o0 o0 o0 o0 o0 o0 o0 i h k=>bU (bj _) i h k
 | .attr _ _=>Aj
theorem nO:∀es:List E,MDOKs G cv es
 |[]=>λN S P Δ ρ fp σ Q Q' X i h k=>k [] Δ fp [] σ [] h i .nil .nil .refl
 |e::es=>yK (pX e)<|nO es
end
end
structure Zip(σ:PH)(dx:D)(vx:PV)(A Fn B:List Jg)(ps:List D)(dn:D)(vn:PV):Prop where
 rd:RdF σ dn vn Fn
 da:∀a∈A,∃l:MO,σ a=Ja l.1
 db:∀a∈B,∃l:MO,σ a=Ja l.1
 upd:∀ (σ':PH) (f:D->Option D) (dn':D) (Fn':List Jg),Ag A σ σ'->Ag B σ σ'->RdF σ' dn' vn Fn'->f dn=Ja dn'->∃dx',updp ps f dx=Ja dx'/\RdF σ' dx' vx (A++(Fn'++B))
theorem Zip.ext{A Fn B:List Jg}(z:Zip σ g L A Fn B ps n v)(x:Ext σ σ1):Zip σ1 g L A Fn B ps n v:=
 ⟨z.rd.ext x,λa h=>by obtain⟨l,e⟩:=z.da a h;exact⟨l,x a _ e⟩,λa h=>by obtain⟨l,e⟩:=z.db a h;exact⟨l,x a _ e⟩,λX f d F V b r e=>z.upd X f d F ((Ag.of_ext x z.da).trans V) ((Ag.of_ext x z.db).trans b) r e⟩
theorem Zip.here{d:D}(r:RdF σ d v F):Zip σ d v [] F [] [] d v:=
 ⟨r,λa h=>(bQ h),λa h=>(bQ h),λX f n A o0 o0 r e=>⟨n,e,by rw[KN,QO];exact r⟩⟩
theorem ke:∀ (ps:List D) (i:D) (f:D->Option D),updp (ps++[i]) f=updp ps (dset1 i f)
 |[]=>λi f=>rfl
 |p::ps=>λi f=>by
  show dset1 p (updp (ps++[i]) f)=dset1 p (updp ps<|dset1 i f);rw[ke ps i f]
inductive ZipS(σ:PH)(dx:D)(vx:PV)(T:List Jg)(qs:List D)(d:D)(W:PV->Prop):Prop
 |mk (p:PV) (A' Fj B':List Jg) (e:W p) (e4:T=A'++(Fj++B')) (z:Zip σ dx vx A' Fj B' qs d p):ZipS σ dx vx T qs d W
theorem Zip.obj{o:MO}(z:Zip σ u L A (a::(Q++(j++O))) B ps n (.ref a)){i d:D}(e:σ a=Ja o.1)(J:RdF σ d p j)
  (v:∀b∈Q++(j++O),∃l:MO,σ b=Ja l.1)
  (V:∀ (σ':PH) (f:D->Option D) (dn':D) (F:List Jg),Ag Q σ σ'->Ag O σ σ'->σ' a=Ja o.1->RdF σ' dn' p F->f d=Ja dn'->∃w,dset1 i f n=Ja w/\RdF σ' w (.ref a) (a::(Q++(F++O)))):
  Zip σ u L (A++(a::Q)) j (O++B) (ps++[i]) d p:=by
 refine⟨J,λb h=> ?_,λb h=> ?_,λσ' f dn' F g T y W=> ?_⟩
 ·rcases Qr.mp h with h|h
  ·exact z.da b h
  ·cases h with
   |head=>exact⟨o,e⟩
   |tail _ h=>exact v b<|Qj _ h
 ·rcases Qr.mp h with h|h
  ·exact v b<|Qe _ (Qe _ h)
  ·exact z.db b h
 ·obtain⟨w,k,r⟩:=V σ' f dn' F g.right.tail T.left ((g.at_ a<|Qe _ (.head _)).trans e) y W;obtain⟨x,Y,X⟩:=z.upd σ' (dset1 i f) w (a::(Q++(F++O))) g.left T.right r k;refine⟨x,by rw[ke];exact Y,?_⟩;have:A++(a::(Q++(F++O))++B)=(A++(a::Q))++(F++(O++B)):=by simp
  rw[<-this];exact X
theorem Zip.key{A Fn B:List Jg}(z:Zip σ g L A Fn B ps (.dict ks l) V){d:D}(Y:keyD i=Ja k)(h:dlook ks l k=Ja d):
  ZipS σ g L (A++(Fn++B)) (ps++[i]) d λp=>X2 λa v=>A3 (V= .ref a) (σ a=Ja (.dict ks v)) (klook ks v k=Ja p):=by
 obtain⟨a,v,G,rfl,e,T,rfl,r⟩:=z.rd;obtain⟨j,H,q⟩:=Qn.mp h;obtain⟨p,Q,O,t,I,rfl,J,m⟩:=r.split j d q;refine⟨p,A++(a::Q),t,O++B,⟨a,v,rfl,e,Qn.mpr ⟨j,H,I⟩⟩,by simp,z.obj (o:=⟨.dict ks v,rfl⟩) e J r.dom λX f n F c b Z U w=> ?_⟩;have M:=m X n p F c b U;rw[set_same I] at M;refine⟨.dict ks<|l.set j n,?_,a,v,_,rfl,Z,T,rfl,M⟩;show((keyD i).bind λk=>(kidx ks k).bind λj=>(l[j]?).bind λx=>(f x).map λy=>D.dict ks<|l.set j y)=_;rw[Y];show((kidx ks k).bind λj=>(l[j]?).bind λx=>(f x).map λy=>D.dict ks<|l.set j y)=_;rw[H];show((l[j]?).bind λx=>(f x).map λy=>D.dict ks<|l.set j y)=_;rw[q];show((f d).map λy=>D.dict ks<|l.set j y)=_;rw[w];rfl
theorem Zip.sub{S:D}{A Fn B:List Jg}(z:Zip σ S s A Fn B ps Z u){d:D}(V:RdF σ i C Fi)(hs:isScr Z=Jd)(h:dsub Z i=Ja d):
  ZipS σ S s (A++(Fn++B)) (ps++[i]) d λp=>∀Q:PV->Prop,Q p->wsub σ u C Q:=by
 induction Z using D.casesOn with
 |list l=>
  induction i using D.casesOn with
  |int n=>
   obtain⟨rfl,o0⟩:=V;obtain⟨a,v,G,rfl,e,T,rfl,r⟩:=z.rd;obtain⟨j,H,q⟩:=Qn.mp (show((place l.length n).bind λj=>l[j]?)=Ja d from h);obtain⟨p,W,O,Y,c,rfl,J,L⟩:=r.split j d q;have K:psub σ (.ref a) (.int n)=Ja p:=by
    show psubO (.int n) (σ a)=_;rw[e];show((place v.length n).bind λj=>v[j]?)=Ja p;rw[r.len,H];exact c
   have hq:plen σ (.ref a)=Ja v.length:=by
    show(match σ a with
     |some (.list l)=>Ja l.length
     |_=>Jb)=_
    rw[e]
   refine⟨p,A++(a::W),Y,O++B,ip hq T K,by simp,z.obj (o:=⟨.list v,rfl⟩) e J r.dom λX f I F g m E U w=> ?_⟩;have M:=L X I p F g m U;rw[set_same c] at M;refine⟨.list<|l.set j I,?_,a,v,_,rfl,E,T,rfl,M⟩;show((place l.length n).bind λj=>(l[j]?).bind λx=>(f x).map λy=>D.list<|l.set j y)=_;rw[H];show((l[j]?).bind λx=>(f x).map λy=>D.list<|l.set j y)=_;rw[q];show((f d).map λy=>D.list<|l.set j y)=_;rw[w];rfl
  |_=>first|exact bnx h|exact onx h|cases h
 |tup l=>
  induction i using D.casesOn with
  |int n=>
   obtain⟨rfl,o0⟩:=V;obtain⟨v,rfl,T,r⟩:=z.rd;obtain⟨j,H,q⟩:=Qn.mp (show((place l.length n).bind λj=>l[j]?)=Ja d from h);obtain⟨p,W,O,Y,c,rfl,J,L⟩:=r.split j d q;have K:psub σ (.tup v) (.int n)=Ja p:=by
    show((place v.length n).bind λj=>v[j]?)=Ja p;rw[r.len,H];exact c
   refine⟨p,A++W,Y,O++B,ip (n:=v.length) rfl T K,by simp,⟨J,λb R=> ?_,λb R=> ?_,λX f I F g m U w=> ?_⟩⟩
   ·rcases Qr.mp R with R|R
    ·exact z.da b R
    ·exact r.dom b<|Qj _ R
   ·rcases Qr.mp R with R|R
    ·exact r.dom b<|Qe _ (Qe _ R)
    ·exact z.db b R
   ·have M:=L X I p F g.right m.left U;rw[set_same c] at M;obtain⟨t,P,u2⟩:=z.upd X (dset1 (.int n) f) (.tup (l.set j I)) (W++(F++O)) g.left m.right ⟨v,rfl,T,M⟩ (by
     show((place l.length n).bind λj=>(l[j]?).bind λx=>(f x).map λy=>D.tup (l.set j y))=_;rw[H];show((l[j]?).bind λx=>(f x).map λy=>D.tup (l.set j y))=_;rw[q];show((f d).map λy=>D.tup (l.set j y))=_;rw[w];rfl)
    refine⟨t,by rw[ke];exact P,?_⟩;have:A++((W++(F++O))++B)=(A++W)++(F++(O++B)):=by simp
    rw[<-this];exact u2
  |_=>first|exact bnx h|exact onx h|cases h
 |scr l=>exact tf hs
 |dict ks l=>
  obtain⟨k,N,h2⟩:=Qn.mp (show((keyD i).bind λk=>dlook ks l k)=Ja d from h);obtain⟨p,A',Y,B',⟨a,v,e0,e1,e2⟩,e3,z'⟩:=z.key N h2;subst e0;exact⟨p,A',Y,B',oq e1 (nR V N) e2,e3,z'⟩
 |_=>first|exact bnx h|exact onx h|cases h
section
variable{G:Gx}{cv:Cl}
theorem lF{j:DRho}{L:Rho}{f:String->List Jg}(env:EnvE σ j L f):∀ (o:E) (Q:String->List D->D->Prop) (Q':Post),dpath G (aR cv) o j Q (λo0 o0=>False)->
  (∀x ps Z σ' I g n A Fn B,Q x ps Z->Ext σ σ'->j.get x=Ja (g,Jc)->L.get x=Ja n->f x=A++(Fn++B)->Zip σ' g n A Fn B ps Z I->Q' I σ')->we G cv o L σ Q' X
 |o,Q,Q',h,k=>by
  induction o using E.casesOn with
  |loc x=>
   obtain⟨⟨d,b⟩,e,N,Y⟩:=dH (show dOE (λp=>p.2=Jc/\Q x [] p.1) (j.get x) from h);cases N;obtain⟨v,W,r⟩:=env.at_ x d Jc e;show oV (λv=>Q' v σ) (L.get x);rw[W];exact k x [] d σ v d v [] (f x) [] Y (.refl σ) e W (by rw[QO,KN]) (.here r)
  |sub a i=>
   refine lF env a _ _ h λx ps Z m I g n A Fn B h M e W F z=> ?_;refine bj i j L f m _ _ _ X (env.ext M) h (λS t C O R h V=> ?_) λo0 o0 o0 o0 o0 q o0=>q.elim;obtain⟨N,Y⟩:=h;obtain⟨d,w,Y⟩:=fY Y;obtain⟨p,y,l,K,c,s,T⟩:=(z.ext V.ext).sub V.rd N w;exact c _<|k x _ d O p g n y l K Y (M.trans V.ext) e W (F.trans s) T
  |_=>exact h.elim
theorem DRho.put_put:∀L:DRho,(L.put x u).put x v=L.put x v
 |[]=>rfl
 |(y,o)::r=>by
  by_cases h:y=x
  ·simp only[DRho.put_if,h,if_true]
  ·simp only[DRho.put_if,h,if_false,DRho.put_put r]
theorem mD{f:String->List Jg}{x:String}{F G:List Jg}:fset (fset f x F) x G=fset f x G:=by
 funext y;by_cases h:y=x
 ·subst h;rw[c6,c6]
 ·rw[ct h,ct h,ct h]
theorem Inv.upd{N σ:PH}{S:DSrc}{p:DRho}{k:Rho}{f:String->List Jg}(i:Inv N S P p k σ f)(e:p.get x=Ja (g,Jc))(t:k.get x=Ja vx)
  (J:f x=A++((a::Z)++B))(z:Zip σ g vx A (a::Z) B ps dn (.ref a)){G':List Jg}(r':∀σ',Ag G' σ σ'->σ' a=Ja o'->RdF σ' dn' (.ref a) (a::G'))(T:G'.Nodup)(sub:∀b∈G',b∈Z\/b∈Fv)(m:MOK N [] f Fv):
  ∃n,updp ps (λo0=>Ja dn') g=Ja n/\Inv N S [] (p.put x (n,Jc)) k (σ.set a o') (fset f x<|A++((a::G')++B)):=by
 obtain⟨K,O⟩:=i.own x g e;have l:a∈f x:=by rw[J];exact Qe _<|.head _
 rw[J] at K;have Y:=Qv.mp K;have I:=Qz.mp Y.2.1;have n3:=Qv.mp I.2;have v:a∉A:=λq=>Y.2.2 a q a (.head _) rfl;have X:a∉B:=λq=>I.1 (Qe _ q);have L:a∉Z:=λq=>I.1 (Qj _ q);have V:a∉Fv:=λq=>m.out a q x l;have E:a∉G':=λq=>(sub a q).elim L V;obtain⟨la,ea⟩:=i.env.dom x a l;have ag:∀F:List Jg,a∉F->Ag F σ (σ.set a o'):=λF M=>⟨λb R=>PH.set_ne _ _ λq=>M (q▸R),λb o U s=>by
  rw[PH.set_ne]
  ·exact U
  ·rintro rfl;obtain rfl:=sj (ea.symm.trans U);exact ft (la.2.symm.trans s)⟩
 obtain⟨n,u1,u2⟩:=z.upd (σ.set a o') (λo0=>Ja dn') dn' (a::G') (ag A v) (ag B X) (r' _ (ag G' E)<|PH.set_same _ _ _) rfl;refine⟨n,u1,?_⟩;obtain⟨i1,m1⟩:=i.move (d':= .hole) (A:=[]) (B:=[]) (F:=f x) e t rfl (by rw[QO,KN]);obtain⟨i2,o0⟩:=i1.called m1 (i.env.dom x) (σ':=σ.set a o') λb o eb M=>by
  rw[PH.set_ne]
  ·exact eb
  ·rintro rfl;exact M l
 have j:∀b∈A++((a::G')++B),b∈f x\/b∈Fv:=λb R=>by
  rw[J]
  rcases Qr.mp R with q|q
  ·exact .inl<|Qj _ q
  ·rcases Qr.mp q with q|q
   ·cases q with
    |head=>exact .inl<|Qe _ (.head _)
    |tail _ q=>exact(sub b q).imp_left λq=>Qe _<|.tail _ (Qj _ q)
   ·exact .inl<|Qe _ (.tail _<|Qe _ q)
 have r:∀b∈Fv,b∉A/\b∉B:=λb R=>⟨λq=>m.out b R x<|by rw[J];exact Qj _ q,λq=>m.out b R x<|by rw[J];exact Qe _<|.tail _ (Qe _ q)⟩
 have u:∀y,y≠x->∀b∈A++((a::G')++B),b∉f y:=λy W b R q=>by
  rcases j b R with w|w
  ·exact i.sep x g e y W b w q
  ·exact m.out b w y q
 have H:(A++((a::G')++B)).Nodup:=by
  refine Qv.mpr ⟨Y.1,Qz.mpr ⟨λq=>(Qr.mp q).elim E X,Qv.mpr ⟨T,n3.2.1,λb R c C q=> ?_⟩⟩,λb R c C q=> ?_⟩
  ·subst q
   rcases sub b R with w|w
   ·exact n3.2.2 b w b C rfl
   ·exact(r b w).2 C
  ·subst q
   rcases Qr.mp (show b∈(a::G')++B from C) with w|w
   ·cases w with
    |head=>exact v R
    |tail _ w=>
     rcases sub b w with w|w
     ·exact Y.2.2 b R b (.tail _<|Qj _ w) rfl
     ·exact(r b w).1 R
   ·exact Y.2.2 b R b (.tail _<|Qe _ w) rfl
 have Q:=(i2.weak (P':=[]) λa h=>(bQ h)).put (x:=x) (b:=Jc) u2 (λo0=>⟨⟨H,λb R=>(j b R).elim (O b) (m.own b)⟩,λy W b R q=>by
   rw[ct W] at q;exact u y W b R q⟩) (λy d W o0 b R q=>by rw[ct W] at R;exact u y W b q R) (λb R=>(j b R).elim (i.src x b) λq=>i.newS b (m.own b q)) (λb R=>(bQ R)) (λw q=>by have:=i.pin x w q;obtain rfl:=sj (t.symm.trans this);rfl)
 rw[DRho.put_put,Rho.put_self _ t,mD] at Q;exact Q
end
structure RetOK(N:PH)(S:DSrc)(σ':PH)(d:D)(b:Bool)(v:PV)(F:List Jg):Prop where
 rd:RdF σ' d v F
 kept:Ext N σ'
 own:b=Jc->F.Nodup/\∀a∈F,N a=Jb
 src:∀a∈F,S a
structure QR(N:PH)(S:DSrc)(Q:bY)(Q':SPost):Prop where
 next:∀Δ ρ σ fp,Q .next Δ->Inv N S [] Δ ρ σ fp->Q' .next ρ σ
 ret:∀d b Δ v ρ σ F,Q (.ret d b) Δ->RetOK N S σ d b v F->Q' (.ret v) ρ σ
def XR(N:PH)(S:DSrc)(X:DSX)(H:gu):Prop:=∀c d ws Δ ρ σ fp F,X c d Δ->Inv N S [] Δ ρ σ fp->RdFs σ d ws F->MOK N [] fp F->H ⟨c,ws⟩ ρ σ
section
variable{N σ σ':PH}{S:DSrc}{P:List Jg}{Δ:DRho}{ρ:Rho}{fp:String->List Jg}
theorem Inv.less(h:Inv X S P Δ ρ σ fp)(x:Ext N X)(q:∀a,N a=Jb->S a):Inv N S P Δ ρ σ fp:=
 ⟨h.env,h.sep,λn d e=>⟨(h.own n d e).1,λa T=>x.new<|(h.own n d e).2 a T⟩,h.src,x.trans h.kept,h.pend,q,h.pin⟩
theorem RetOK.less{d:D}(h:RetOK X S σ d b v F)(x:Ext N X):RetOK N S σ d b v F:=
 ⟨h.rd,x.trans h.kept,λe=>⟨(h.own e).1,λa T=>x.new<|(h.own e).2 a T⟩,h.src⟩
theorem xS{e:D}(h:(Δ.frz t).get y=Ja (e,Jc)):Δ.get y=Ja (e,Jc)/\∀xs,t=Ja xs->y∈xs->e.atom=Jc:=by
 induction t with
 |none=>exact⟨h,λxs q=>(ns q)⟩
 |some xs=>
  rw[uv,DRho.get_map (λx q=>if xs.contains x then(q.1,q.1.atom&&q.2) else q)] at h;obtain⟨⟨d,c⟩,T,w⟩:=Qu.mp h;by_cases hx:xs.contains y=Jc
  ·rw[Uh hx] at w
   induction C:d.atom with
   |false=>simp only[C,Bool.false_and] at w;cases w
   |true=>simp only[C,Wg] at w;cases w;exact⟨T,λo0 o0 o0=>C⟩
  ·rw[Ug hx] at w;cases w;refine⟨T,λs q W=> ?_⟩;obtain rfl:=sj q;exact absurd (by simpa using W) hx
theorem Inv.away(h:Inv N S P Δ ρ σ fp)(p:PartOK σ fp t F)(q:(Δ.frz t).get y=Ja (e,Jc)):Disj (fp y) F:=λa T b=>by
 obtain⟨c,Z⟩:=xS q;obtain⟨l,x⟩:=h.env.dom y a T
 induction t with
 |none=>have:=(p.own rfl).2 a b;exact sn<|x.symm.trans this
 |some s=>
  rcases p.al s rfl a b with w|⟨z,R,w⟩
  ·exact sn<|x.symm.trans w
  ·by_cases V:z=y
   ·subst V;obtain⟨v,o0,r⟩:=h.env.at_ z e Jc c;rw[r.atom (Z s rfl R)] at T;cases T
   ·exact h.sep y e c z V a T w
theorem Inv.srcP(h:Inv N S P Δ ρ σ fp)(p:PartOK σ fp t F):∀a∈F,S a:=λa T=>by
 induction t with
 |none=>exact h.newS a<|h.new0 ((p.own rfl).2 a T)
 |some x=>
  rcases p.al x rfl a T with w|⟨z,o0,w⟩
  ·exact h.newS a<|h.new0 w
  ·exact h.src z a w
theorem Inv.puts:∀ (xs:List String) (ds:List D) (vs:List PV) (F:List Jg) (Δ:DRho) (ρ:Rho) (fp:String->List Jg),Inv N S [] Δ ρ σ fp->ds.length=xs.length->RdFs σ ds vs F->(b=Jc->MOK N [] fp F)->
  (∀y e,Δ.get y=Ja (e,Jc)->Disj (fp y) F)->(∀a∈F,S a)->(∀x∈xs,S.pin x=Jb)->vs.length=xs.length/\∃f,Inv N S [] (Δ.puts xs ds b) (ρ.puts xs vs) σ f:=by
 intro xs
 induction xs with
 |nil=>
  intro ds vs F Δ ρ fp h l r _ _ _ _
  induction ds using List.casesOn with
  |cons=>cases l
  |nil=>obtain⟨rfl,rfl⟩:=r;exact⟨rfl,fp,h⟩
 |cons x xs i=>
  intro ds vs F Δ ρ fp h l V R o s n
  induction ds using List.casesOn with
  |nil=>cases l
  |cons d ds=>
   obtain⟨p,I,X,t,L,Z,v,M⟩:=V;subst L Z;have A:=h.put (x:=x) (b:=b) v (λq=>⟨⟨(Qv.mp (R q).nd).1,λa T=>(R q).own a (Qj _ T)⟩,λy W a T=>(R q).out a (Qj _ T) y⟩)
    (λy e W q a T j=>o y e q a T<|Qj _ j) (λa T=>s a<|Qj _ T) (λa T=>(bQ T)) (λw q=>by exact ns<|(n x<|.head _).symm.trans q)
   have hx:∀e,(Δ.put x (d,b)).get x=Ja (e,Jc)->b=Jc:=λe q=>by
    have m:=DRho.get_mem _ q;rw[DRho.put_keys] at m;rw[DRho.get_put _ m] at q;cases q;rfl
   have J:b=Jc->Disj X t:=λq a T j=>(Qv.mp (R q).nd).2.2 a T a j rfl;obtain⟨U,f,E⟩:=i ds I t _ _ _ A (Nat.succ.inj l) M (λq=>⟨(Qv.mp (R q).nd).2.1,λa T=>(R q).own a (Qe _ T),λa T y W=>by
     by_cases Q:y=x
     ·subst Q;rw[c6] at W;exact J q a W T
     ·rw[ct Q] at W;exact(R q).out a (Qe _ T) y W,λa T=>(bQ T)⟩)
    (λy e q a T j=>by
     by_cases Q:y=x
     ·subst Q;rw[c6] at T;exact J (hx e q) a T j
     ·rw[ct Q] at T;rw[DRho.get_put_ne Q] at q;exact o y e q a T (Qe _ j)) (λa T=>s a (Qe _ T)) (λy W=>n y (.tail _ W))
   exact⟨Uk (· +1) U,f,E⟩
theorem Inv.bindT{tg:Tg}{d:D}(h:Inv N S [] Δ ρ σ fp)(r:RdF σ d v F)(e:dW tg d b Δ=Ja H)(R:b=Jc->MOK N [] fp F)(o:∀y e,Δ.get y=Ja (e,Jc)->Disj (fp y) F)(E:∀a∈F,S a)(n:∀x∈tg.names,S.pin x=Jb):
  ∃ρ' f,bindT tg v ρ=Ja ρ'/\Inv N S [] H ρ' σ f:=by
 induction tg with
 |name x=>
  obtain rfl:=sj e;exact⟨_,_,rfl,h.put r (λq=>⟨⟨(R q).nd,(R q).own⟩,λy o0 a T=>(R q).out a T y⟩) (λy e o0 q=>o y e q) E (λa T=>(bQ T)) λw q=>by exact ns<|(n x<|.head _).symm.trans q⟩
 |tup s=>
  induction d using D.casesOn with
  |tup z=>
   obtain⟨l,rfl,M,r⟩:=r;by_cases q:z.length=s.length
   ·have g:Ja (Δ.puts s z b)=Ja H:=by rw[<-e];exact(Uh q).symm
    obtain rfl:=sj g;obtain⟨p,f,Y⟩:=Inv.puts (b:=b) s z l F Δ ρ fp h q r R o E n;exact⟨_,f,Uh p,Y⟩
   ·have g:Jb=Ja H:=by rw[<-e];exact(Ug q).symm
    exact ns g
  |_=>first|exact bnx e|exact onx e|cases e
end
def Pins(P:DSrc)(f:String->Bool):Prop:=∀x v,P.pin x=Ja v->f x=Jc
theorem Pins.off{P:DSrc}{f:String->Bool}(h:Pins P f)(hx:f x=Jd):P.pin x=Jb:=by
 induction e:P.pin x with
 |none=>rfl
 |some v=>exact tf<|(h x v e).symm.trans hx
theorem Pins.imp{f g:String->Bool}(h:Pins P f)(k:∀x,f x=Jc->g x=Jc):Pins P g:=λx v e=>k x<|h x v e
section
variable(G:Gx)(cv cu:Cl)
def SDOK(s:S):Prop:=∀ (N:PH) (P:DSrc) (Δ:DRho) (ρ:Rho) (fp:String->List Jg) (σ:PH) (Q:bY) (X:DSX) (r:SPost) (H:gu),Inv N P [] Δ ρ σ fp->Pins P (S.noas · s)->dws G (aR cv) (aR cu) s Δ Q X->
 QR N P Q r->XR N P X H->ws G cv cu s ρ σ r H
def SDOKs(s:List S):Prop:=∀ (N:PH) (P:DSrc) (Δ:DRho) (ρ:Rho) (fp:String->List Jg) (σ:PH) (Q:bY) (X:DSX) (r:SPost) (H:gu),Inv N P [] Δ ρ σ fp->Pins P (S.noass · s)->dwss G (aR cv) (aR cu) s Δ Q X->
 QR N P Q r->XR N P X H->wss G cv cu s ρ σ r H
end
section
variable{G:Gx}{cv cu:Cl}
theorem XR.ext{fp:String->List Jg}(h:XR N P X H)(i:Inv N P [] Δ ρ σ fp){ws:List PV}(q:X c ds Δ)(x:XOK σ σ' ds ws F):H ⟨c,ws⟩ ρ σ':=
 h c ds ws Δ ρ σ' fp F q (i.ext x.ext) x.rd ⟨x.nd,λa T=>i.new0<|x.own a T,λa T y W=>(by obtain⟨l,e⟩:=i.env.dom y a W;exact ns<|(x.own a T).symm.trans e),λa T=>(bQ T)⟩
theorem zo:SDOK G cv cu (.assign (.name x) e):=λN P Δ ρ fp σ Q X M H i p h q s=>
 bj e Δ ρ fp σ _ _ _ _ i.env h (λd t v O F h r=>q.next _ _ _ _ h (((i.ext r.ext).frz t).put r.rd (λb=>by
   have m:=i.fresh r.part (Ke.mp b);exact⟨⟨m.nd,m.own⟩,λy o0 a T=>m.out a T y⟩)
  (λy e o0 w=>i.away r.part w) (i.srcP r.part) (λa T=>(bQ T)) λw e=>by rw[p.off (show(!(Tg.name x).names.contains x)=Jd by simp[Tg.names])] at e;exact ns e)) λo0 o0 o0 o0 o0 w x=>s.ext i w x
theorem By:SDOK G cv cu (.assign (.tup xs) e):=λN P Δ ρ fp σ Q X M K i p h q s=>
 bj e Δ ρ fp σ _ _ _ _ i.env h (λd t v T F h r=>by
  obtain⟨H,L,h⟩:=gZ h;obtain⟨O,f,m,n⟩:=((i.ext r.ext).frz t).bindT r.rd L (λb=>i.fresh r.part (Ke.mp b)) (λy e w=>i.away r.part w) (i.srcP r.part) (λy W=>p.off (show(!(Tg.tup xs).names.contains y)=Jd by simpa using W));rw[m];exact q.next _ _ _ _ h n) λo0 o0 o0 o0 o0 w x=>s.ext i w x
theorem A7:SDOK G cv cu (.ret e):=λN P Δ ρ fp σ Q X M K i p h q s=>by
 rcases h with h|h
 ·exact pX e N P [] Δ ρ fp σ _ _ _ i h λd H f v σ' F h n r m o0=>q.ret _ _ _ _ _ _ F h ⟨r,n.kept,λo0=>⟨m.nd,m.own⟩,λa T=>n.newS a<|m.own a T⟩
 ·exact bj e Δ ρ fp σ _ _ _ _ i.env h (λd t v O F h r=>q.ret _ _ _ _ _ _ F h ⟨r.rd,i.kept.trans r.ext,λb=>by
   have m:=i.fresh r.part (Ke.mp b);exact⟨m.nd,m.own⟩,i.srcP r.part⟩) λo0 o0 o0 o0 o0 w x=>s.ext i w x
theorem BU(R:SDOKs G cv cu b)(T:SDOKs G cv cu o):SDOK G cv cu (.if_ t b o):=λN P Δ ρ fp σ Q X M H i p h q s=>
 bj t Δ ρ fp σ _ _ _ _ i.env h (λd g v m F h r=>by
  obtain⟨c,rfl,h⟩:=eF h;rw[r.rd.1]
  induction c with
  |true=>exact R N P Δ ρ fp m Q X M H (i.ext r.ext) (p.imp λx e=>(Qh.mp (show(S.noass x b&&S.noass x o)=Jc from e)).1) h q s
  |false=>exact T N P Δ ρ fp m Q X M H (i.ext r.ext) (p.imp λx e=>(Qh.mp (show(S.noass x b&&S.noass x o)=Jc from e)).2) h q s) λo0 o0 o0 o0 o0 w x=>s.ext i w x
theorem wb{args:List E}:SDOK G cv cu (.raise c args):=λN P Δ ρ fp σ Q X t H i p h q s=>
 ⟨h.1,cP args Δ ρ fp σ _ _ _ _ i.env h.2 (λd J O j h x r=>by
  obtain⟨F,v,g⟩:=r.rds.take (G.flds c).length;obtain⟨o,m⟩:=r.part.own h.1;exact s.ext i h.2 ⟨v,x,o.sublist g,λa T=>m a (g.subset T)⟩) λo0 o0 o0 o0 o0 w x=>s.ext i w x⟩
theorem QR.fl{K:DRho->Prop}{K':Rho->PH->Prop}(q:QR N P Q Q')(k:∀Δ ρ σ fp,K Δ->Inv N P [] Δ ρ σ fp->K' ρ σ):QR N P (donFl K Q) (onFl K' Q'):=⟨k,q.ret⟩
theorem zU:SDOKs G cv cu []:=λN P Δ ρ fp σ Q X r H i p h q x=>q.next _ _ _ _ h i
theorem wP(U:SDOK G cv cu s)(n:SDOKs G cv cu r):SDOKs G cv cu (s::r):=λN P Δ ρ fp σ Q X t H i p h q O=>
 U N P Δ ρ fp σ _ X _ H i (p.imp λx e=>(Qh.mp (show(S.noas x s&&S.noass x r)=Jc from e)).1) h (q.fl λu j m f E w=>n N P u j f m Q X t H w (p.imp λx e=>(Qh.mp (show(S.noas x s&&S.noass x r)=Jc from e)).2) E q O) O
end
section
variable{G:Gx}{cv cu:Cl}
theorem MOK.one{fp:String->List Jg}(m:MOK N P fp F):MOK N [] fp F:=⟨m.nd,m.own,m.out,λa h=>(bQ h)⟩
theorem qZ{ds:List D}{l:List PV}{F:List Jg}(r:RdFs σ ds l F){d:D}{Fv:List Jg}(S:RdF σ d v Fv)(x:F.Nodup)(V:Fv.Nodup)(J:Disj Fv F):
  ∃G',RdFs σ (ds.set j d) (l.set j v) G'/\G'.Nodup/\∀b∈G',b∈F\/b∈Fv:=by
 by_cases H:j<ds.length
 rotate_left
 ·rw[List.set_eq_of_length_le (Nat.le_of_not_lt H),List.set_eq_of_length_le (by rw[r.len];exact Nat.le_of_not_lt H)];exact⟨F,r,x,λb h=> .inl h⟩
 obtain⟨p,A,B,y,I,rfl,L,g⟩:=r.split j ds[j] (Qf H);have n:=Qv.mp x;have z:=Qv.mp n.2.1;refine⟨A++(Fv++B),g σ d v Fv .refl .refl S,Qv.mpr ⟨n.1,Qv.mpr ⟨V,z.2.1,λa T b h q=> ?_⟩,λa T b h q=> ?_⟩,λb h=> ?_⟩
 ·subst q;exact J a T<|Qe _ (Qe _ h)
 ·subst q
  rcases Qr.mp h with w|w
  ·exact J a w<|Qj _ T
  ·exact n.2.2 a T a (Qe _ w) rfl
 ·rcases Qr.mp h with w|w
  ·exact .inl<|Qj _ w
  ·rcases Qr.mp w with w|w
   ·exact .inr w
   ·exact .inl<|Qe _ (Qe _ w)
theorem RdFs.snoc(r:RdFs σ ds l F){d:D}(S:RdF σ d v Fv):RdFs σ (ds++[d]) (l++[v]) (F++Fv):=r.app ⟨v,[],Fv,[],rfl,(QO _).symm,S,rfl,rfl⟩
theorem um{ks:List (List KA)}{l:List PV}{F:List Jg}(r:RdFs σ ds l F)(T:l.length<lim)(M:ks.length=l.length){d:D}{Fv:List Jg}(S:RdF σ d v Fv)(x:F.Nodup)(V:Fv.Nodup)(J:Disj Fv F):
  ∃G',(∀σ',Ag G' σ σ'->σ' a=Ja (kset ks l k v)->RdF σ' (dkset ks ds k d) (.ref a) (a::G'))/\G'.Nodup/\∀b∈G',b∈F\/b∈Fv:=by
 unfold kset dkset;cases kidx ks k with
 |some j=>
  obtain⟨G',g,X,H⟩:=qZ (j:=j) r S x V J;exact⟨G',λσ' ag e=>⟨a,_,G',rfl,e,by rw[Yv];exact⟨KW T,M⟩,rfl,g.ag ag⟩,X,H⟩
 |none=>
  refine⟨F++Fv,λσ' ag e=>⟨a,_,_,rfl,e,by rw[QJ,QJ,M];exact⟨T,rfl⟩,rfl,(r.snoc S).ag ag⟩,Qv.mpr ⟨x,V,λb h c C q=>J c C<|q▸h⟩,λb h=>Qr.mp h⟩
theorem BH:SDOK G cv cu (.setIdx o i e):=λN P Δ ρ fp σ Q X Q' X' iv pn h q xr=>
 pX e N P [] Δ ρ fp σ _ _ _ iv h λd u ad v ae F h O rv m o0=>
 lF O.env o _ _ h λx ps dn ab vn dx vx A Fn B h S ex ev J z=>
 bj i u ρ ad ab _ _ _ _ (O.env.ext S) h (λdi t vi p Fi h V=>by
  have L:=O.ext<|S.trans V.ext;have s:=z.ext V.ext;have nd:=(L.own x dx ex).1;rw[J] at nd;have c:=rv.ext<|S.trans V.ext;have f:∀ {I:D} {W:D} {M:PH} {C:String->List Jg},dput u x ps I (λac=>Q .next ac)->updp ps (λo0=>Ja I) dx=Ja W->Inv N P [] (u.put x (W,Jc)) ρ M C->Q' .next ρ M:=λh Y Z=>by
   obtain⟨⟨aa,b⟩,e1,h⟩:=dH h;rw[ex] at e1;cases e1;obtain⟨aa,e2,h⟩:=fY h;obtain rfl:=sj<|Y.symm.trans e2;exact q.next _ _ _ _ h Z
  induction dn using D.casesOn with
  |list l=>
   obtain⟨n,rfl,h⟩:=ew h;obtain⟨j,hj,h⟩:=gE h;have hv:=V.rd.1;obtain⟨a,K,Gn,e3,y,T,e4,r⟩:=s.rd;subst e3 e4 hv;refine .inr ?_;show onO _ (p a);rw[y];show oNat _ (place K.length n);rw[r.len,hj];refine⟨r.len▸T,?_⟩;have R:=(Qz.mp (Qv.mp nd).2.1).2;obtain⟨G',U,g2,H⟩:=qZ (j:=j) r c (Qv.mp R).1 m.nd λb hb hg=>m.out b hb x (by rw[J];exact Qe _<|.tail _ (Qj _ hg));obtain⟨W,Y,Z⟩:=L.upd ex ev J s (dn':= .list (l.set j d)) (o':= .list (K.set j v)) (λaf ag e=>⟨a,_,G',rfl,e,by rw[Yv];exact T,rfl,U.ag ag⟩) g2 H m.one;exact f h Y Z
  |dict ks l=>
   obtain⟨a,K,Gn,e3,y,T,e4,r⟩:=s.rd;subst e3 e4;refine .inl ?_;show onDO _ (p a);rw[y];have g:K.length<lim:=by rw[r.len];exact h.1
   refine⟨g,uX V.rd h.2 λkey h=> ?_⟩;have R:=(Qz.mp (Qv.mp nd).2.1).2;obtain⟨G',U,g2,H⟩:=um (ks:=ks) (a:=a) (k:=key) r g T.2 c (Qv.mp R).1 m.nd λb hb hg=>m.out b hb x (by rw[J];exact Qe _<|.tail _ (Qj _ hg));obtain⟨W,Y,Z⟩:=L.upd ex ev J s U g2 H m.one;exact f h Y Z
  |_=>exact h.elim) λo0 o0 o0 o0 o0 w o0=>w.elim
theorem nb{S:DSrc}{Δ:DRho}{ρ:Rho}{fp:String->List Jg}(i:Inv N S P Δ ρ σ fp){A Fn B:List Jg}
  (ex:Δ.get x=Ja (u,Jc))(W:ρ.get x=Ja L)(F:fp x=A++(Fn++B))(z:Zip σ u L A Fn B ps Z I)(g:RdFs σ ds vs Fv)(mv:MOK N [] fp Fv){K:D->Prop}
  (h:dmeth m ds Z K)(k:∀dn' n M σ' f,K dn'->updp ps (λo0=>Ja dn') u=Ja n->Inv N S [] (Δ.put x (n,Jc)) ρ σ' f->K' M σ'):wmeth m I vs σ K':=by
 have nd:=(i.own x u ex).1;rw[F] at nd
 induction m with
 |append=>
  match ds,h,g with
  |[d],h,g=>
   obtain⟨l,rfl,H,p⟩:=eR h;obtain⟨a,j,w,X,y,J,E,r⟩:=z.rd;subst X E;have hv:=g.len
   match vs,hv,g with
   |[v],_,g=>
    show onO _ (σ a);rw[y];have t:j.length<lim:=by rw[r.len];exact H
    have T:=(Qz.mp (Qv.mp nd).2.1).2;obtain⟨O,Y,U⟩:=i.upd ex W F z (dn':= .list (l++[d])) (o':= .list (j++[v])) (λσ' ag e=>⟨a,_,_,rfl,e,by rw[QJ];exact t,rfl,(r.app g).ag ag⟩) (Qv.mpr ⟨(Qv.mp T).1,mv.nd,λb R c C q=>by
      subst q;exact mv.out b C x (by rw[F];exact Qe _ (.tail _ (Qj _ R)))⟩) (λb R=>Qr.mp R) mv
    exact⟨t,k _ _ _ _ _ p Y U⟩
theorem ArgsR.rds{ds:List D}{F:List (List Jg)}(r:ArgsR σ (ds.map λd=>(d,Jc)) vs F):RdFs σ ds vs F.flatten:=by
 induction ds generalizing vs F with
 |nil=>cases r;exact⟨rfl,rfl⟩
 |cons d ds h=>cases r with|cons f M y i=>exact⟨_,_,_,_,rfl,rfl,f,h i⟩
theorem jo{d:D}(r:RdF σ d v F)(h:drecv m d):recv m σ v:=by
 have h:dLst (λo0=>True) d/\(recv m σ v=onL σ (λo0=>True) v):=by
  induction m with
  |_=>exact⟨h,rfl⟩
 rw[h.2];obtain⟨l,rfl,o0⟩:=eR h.1;obtain⟨a,k,G,rfl,e,o0⟩:=r;show onL σ _ _;rw[gU e];trivial
theorem mu:∀ks:List (List KA),kidx ks k=Jb->kidx (ks++[k]) k=Ja ks.length
 |[]=>λo0=>Uh rfl
 |y::r=>λh=>by
  have h:(if y=k then Ja 0 else(kidx r k).map (· +1))=Jb:=h;by_cases e:y=k
  ·exact sn<|(Uh e).symm.trans h
  ·rw[Ug e] at h;show(if y=k then Ja 0 else(kidx (r++[k]) k).map (· +1))=_;rw[Ug e,mu r (Option.map_eq_none_iff.mp h)];rfl
theorem sW:∀ {ks:List (List KA)},kidx ks k=Ja j->j<ks.length:=λ{ks}=>by
 induction ks generalizing j with
 |nil=>intro h;exact ns h
 |cons y r W=>
  intro h;have h:(if y=k then Ja 0 else(kidx r k).map (· +1))=Ja j:=h;by_cases e:y=k
  ·obtain rfl:=sj<|(Uh e).symm.trans h;exact Ye _
  ·rw[Ug e] at h;obtain⟨i,E,rfl⟩:=Qu.mp h;exact Yp<|W E
theorem sD{ks:List (List KA)}{l:List PV}(T:ks.length=l.length)(h:klook ks l k=Jb):klook (ks++[k]) (l++[v]) k=Ja v:=by
 have q:kidx ks k=Jb:=by
  induction e:kidx ks k with
  |none=>rfl
  |some j=>
   unfold klook at h;rw[e] at h;have h:l[j]? =Jb:=h;rw[WT] at h;have:=sW e;exact absurd this<|Kd.mpr (zle (QS T) h)
 unfold klook;rw[mu ks q];show(l++[v])[ks.length]? =_;rw[T,WO<|QA _,Nat.sub_self];rfl
theorem DRho.put_self:∀ρ:DRho,ρ.get x=Ja v->ρ.put x v=ρ
 |(y,o)::r,h=>by
  by_cases W:y=x
  ·simp only[DRho.get_if,W,if_true] at h;simp only[DRho.put_if,W,if_true,h]
  ·simp only[DRho.get_if,W,if_false] at h;simp only[DRho.put_if,W,if_false,DRho.put_self r h]
theorem xZ{Δ:DRho}{ρ:Rho}{fp:String->List Jg}{args:List E}{key:List KA}(i:Inv N P [] Δ ρ σ fp)(q:QR N P Q Q')
  (ex:Δ.get x=Ja (.dict ks l,Jc))(X:ρ.get x=Ja (.ref a))(y:σ a=Ja (.dict ks K))(g:keyD dk=Ja key)(el:klook ks K key=Ja p)
  (h:dOD (λn=>drecv m n/\dwes G (aR cv) args Δ (λvs=>tjs vs=Jb/\dmeth m (fsts vs) n λdn'=>dOD (λd=>Q .next<|Δ.put x (d,Jc))<|dset1 dk (λo0=>Ja dn') (.dict ks l)) λo0 o0=>False) (dsub (.dict ks l) dk)):
  recv m σ p/\wes G cv args ρ σ (λvs O=>wmeth m p vs O λo0 σ1=>Q' .next ρ σ1) X':=by
 obtain⟨n,H,Y,L⟩:=fY h;obtain⟨k',e,T⟩:=Qn.mp (show((keyD dk).bind λk=>dlook ks l k)=Ja n from H);obtain rfl:=sj<|g.symm.trans e;obtain⟨M,v,r⟩:=i.env.at_ x _ _ ex;obtain rfl:=sj<|X.symm.trans v;obtain⟨p',A,t,B,⟨R,u,c,Z,C⟩,J,z⟩:=(Zip.here r).key g T;cases c;rw[y] at Z;cases Z;obtain rfl:=sj<|el.symm.trans C;refine⟨jo z.rd Y,?_⟩;refine cP args Δ ρ fp σ _ _ _ _ i.env L (λds vs O I h W s=> ?_) λo0 o0 o0 o0 o0 w o0=>w.elim;have F:fp x=A++(t++B):=by rw[<-J,QO,KN]
 exact nb (i.ext W) ex X F (z.ext W) s.rds (i.fresh s.part h.1) h.2 λdn' j M S f b U V=>by
  obtain⟨d2,e,b⟩:=fY b;have U:dset1 dk (λo0=>Ja dn') (.dict ks l)=Ja j:=U;obtain rfl:=sj<|U.symm.trans e;exact q.next _ _ _ _ b V
theorem BL{args:List E}{fp:String->List Jg}(i:Inv N P [] Δ ρ σ fp)(h:dsd G (aR cv) m args Δ (λH=>Q .next H) x k)(q:QR N P Q Q'):
  ws G cv cu (.expr<|.meth (.sd (.loc x) k) m args) ρ σ Q' X':=by
 obtain⟨⟨d,b⟩,e,u,h⟩:=dH h;cases u;obtain⟨s,l,u,h⟩:=ot h;cases u;obtain⟨v,W,a,K,n,rfl,L,J,F,r⟩:=i.env.at_ x _ _ e;show oV _ (ρ.get x);rw[W];refine⟨?_,bj k Δ ρ fp σ _ _ _ _ i.env h (λdk t vk T Fk h X=> ?_) λo0 o0 o0 o0 o0 w o0=>w.elim⟩
 ·show onDO _ (σ a);rw[L];trivial
 have B:=X.ext a _ L;have f:=r.ext X.ext;have S:=i.ext X.ext;obtain⟨V,h⟩:=h;have D:K.length<lim:=by rw[r.len];exact V
 obtain⟨key,U,h⟩:=i3 h;show onDO _ (T a);rw[B];refine⟨D,?_⟩;rw[nR X.rd U]
 induction Z:dlook s l key with
 |some dn=>
  have A:dens s l key= .dict s l:=by unfold dens;rw[Z]
  rw[A,DRho.put_self _ e] at h;obtain⟨j,p,G',o0,o0,o0,g1,o0,o0⟩:=f.look Z;show(match klook s K key with
   |some v=>_
   |none=>_)
  rw[g1];exact xZ S q e W B U g1 h
 |none=>
  have A:dens s l key= .dict (s++[key]) (l++[.list []]):=by unfold dens;rw[Z]
  rw[A] at h;show(match klook s K key with
   |some v=>_
   |none=>_)
  rw[jX f Z];intro b R;have Y:b∉fp x:=λw=>by obtain⟨o,g⟩:=S.env.dom x b w;exact ns<|R.symm.trans g
  have M:Ext T (T.set b (.list [])):=Ext.set R _;have i2:=S.ext M;have aa:b≠a:=λw=>Y (by rw[F,w];exact .head _);have m2:MOK N [] fp [b]:=⟨Qz.mpr ⟨λw=>(bQ w),.nil⟩,λc C=>(Qk.mp C)▸S.new0 R,λc C y I=>(by
   rw[Qk.mp C] at I;obtain⟨o,g⟩:=S.env.dom y b I;exact ns (R.symm.trans g)),λc C=>(bQ C)⟩
  have rb:RdF (T.set b<|.list []) (.list []) (.ref b) [b]:=⟨b,[],[],rfl,PH.set_same _ _ _,QY _,rfl,rfl,rfl⟩
  have r2:=(f.ext M).snoc rb;have nd:=(i.own x _ e).1;rw[F] at nd;have z:Zip (T.set b<|.list []) (.dict s l) (.ref a) [] (a::n) [] [] (.dict s l) (.ref a):= .here ⟨a,K,n,rfl,M a _ B,J,rfl,f.ext M⟩;obtain⟨ab,u1,u2⟩:=i2.upd e W (by rw[F,QO,KN]) z (dn':= .dict (s++[key]) (l++[.list []])) (o':= .dict (s++[key]) (K++[.ref b])) (G':=n++[b]) (Fv:=[b])
   (λac ag e=>⟨a,_,_,rfl,e,by rw[QJ,QJ,J.2];exact⟨D,rfl⟩,rfl,r2.ag ag⟩) (Qv.mpr ⟨(Qz.mp nd).2,m2.nd,λc C c' O w=>by
    rw[Qk.mp O] at w;exact Y (by rw[F,<-w];exact .tail _ C)⟩) (λc C=>Qr.mp C) m2
  obtain rfl:=sj u1;have hm:x∈keysD Δ:=DRho.get_mem _ e;refine xZ u2 q (DRho.get_put _ hm) W (PH.set_same _ _ _) U (p:= .ref b) (sD J.2<|jX f Z) ?_;simp only[DRho.put_put];exact h
section
variable{o:E}{m:Me}{args:List E}{N:PH}{P:DSrc}{Δ:DRho}{ρ:Rho}{fp:String->List Jg}{σ:PH}{Q:bY}{Q':SPost}{X':gu}
theorem zM(i:Inv N P [] Δ ρ σ fp)(h:dmeE G (aR cv) m args Δ (λH=>Q .next H) (.loc x) (Ja x) Jb)(q:QR N P Q Q'):ws G cv cu (.expr (.meth (.loc x) m args)) ρ σ Q' X':=by
 obtain⟨⟨Z,b⟩,D,E⟩:=dH h.1;obtain⟨v,e,r⟩:=i.env.at_ x Z b D;show oV _ (ρ.get x);rw[e];refine⟨jo r E,?_⟩;refine nO args N P [] Δ ρ fp σ _ _ _ i h.2 λz u p J g I h w j s o0=> ?_;obtain⟨⟨d1,a⟩,T,Y,K⟩:=dH h;cases Y;obtain⟨S,O,M⟩:=w.env.at_ x d1 Jc T;obtain rfl:=sj<|e.symm.trans O;exact nb w T e (A:=[]) (B:=[]) (by rw[QO,KN]) (.here M) j.rds s K λn d S X f k U F=>by obtain rfl:=sj U;exact q.next _ _ _ _ k F
theorem wN(i:Inv N P [] Δ ρ σ fp)(h:dpath G (aR cv) o Δ (λx ps d=>drecv m d/\dwes G (aR cv) args Δ (λvs=>tjs vs=Jb/\dmeth m (fsts vs) d λdn'=>dput Δ x ps dn' (λH=>Q .next H)) λo0 o0=>False) λo0 o0=>False)(q:QR N P Q Q'):ws G cv cu (.expr (.meth o m args)) ρ σ Q' X':=by
 refine lF i.env o _ _ h λx ps d T n g L A Fn B h M ex v F z=> ?_;refine⟨jo z.rd h.1,?_⟩;refine cP args Δ ρ fp T _ _ _ _ (i.env.ext M) h.2 (λE vs O s h W r=> ?_) λo0 o0 o0 o0 o0 w o0=>w.elim;exact nb (i.ext<|M.trans W) ex v F (z.ext W) r.rds ((i.ext M).fresh (r.part) h.1) h.2 λdn' b K X f k U V=>by
  obtain⟨⟨d1,a⟩,e,k⟩:=dH k;rw[ex] at e;cases e;obtain⟨I,j,k⟩:=fY k;obtain rfl:=sj<|U.symm.trans j;exact q.next _ _ _ _ k V
end
theorem sV{t:E×E}(h:sdOf o=Ja t):o= .sd t.1 t.2:=by
 induction o using E.casesOn with
 |sd a k=>obtain rfl:=sj h;rfl
 |_=>first|exact bnx h|exact onx h|cases h
theorem za(i:Inv N P [] Δ ρ σ fp)(h:dtmp G (aR cv) m args Δ (λH=>Q .next H) o)(q:QR N P Q Q'):ws G cv cu (.expr (.meth o m args)) ρ σ Q' X':=
 bj o Δ ρ fp σ _ _ _ _ i.env h (λd t v T F h r=>⟨jo r.rd h.2.1,cP args Δ ρ fp T _ _ _ _ (i.env.ext r.ext) h.2.2 (λs J O I p x j=>by
  obtain⟨W,o0,o0⟩:=h
  induction m with
  |append=>
   have p:dmeth .append (fsts s) d (λo0=>Q .next Δ):=p;have M:=j.rds.len;generalize fsts s=U at p M
   match U,p,J,M with
   |[e],p,[u],_=>
    obtain⟨l,rfl,E,g⟩:=eR p;obtain⟨a,k,n,rfl,y,o0,Z,c⟩:=r.rd;have D:σ a=Jb:=(r.part.own W).2 a (Z▸ .head _);show onO _ (O a);rw[x a _ y];refine⟨by rw[c.len];exact E,q.next _ _ _ _ g<|i.ext λb R C=> ?_⟩;rw[PH.set_ne]
    ·exact x b R<|r.ext b R C
    ·rintro rfl;exact ns (D.symm.trans C)) λo0 o0 o0 o0 o0 w o0=>w.elim⟩) λo0 o0 o0 o0 o0 w o0=>w.elim
theorem yH{args:List E}:SDOK G cv cu (.expr (.meth o m args)):=λN P Δ ρ fp σ Q X Q' X' i p h q O=>by
 have h:dmeE G (aR cv) m args Δ (λH=>Q .next H) o (locOf o) (sdOf o):=h
 induction l:locOf o with
 |some x=>
  cases j6 l;exact zM i h q
 |none=>
  rw[l] at h
  induction s:sdOf o with
  |some k=>
   rw[s] at h;have h:dsdL G (aR cv) m args Δ (λH=>Q .next H) k.2 (locOf k.1):=h
   induction a:locOf k.1 with
   |none=>rw[a] at h;exact h.elim
   |some x=>
    rw[a] at h;rw[sV s,j6 a];exact BL i h q
  |none=>
   rw[s] at h;have h:cond (rootC o) (dtmp G (aR cv) m args Δ (λH=>Q .next H) o) _:=h
   induction r:rootC o with
   |true=>rw[r] at h;exact za i h q
   |false=>rw[r] at h;exact wN i h q
theorem wv(O:∀Δ K X,dexpr G (aR cv) e Δ K X=dwe G (aR cv) e Δ (λo0 o0=>K Δ) λc l=>X c l Δ):SDOK G cv cu (.expr e):=λN P Δ ρ fp σ Q X Q' X' i p h q s=>by
 have h:dexpr G (aR cv) e Δ (λH=>Q .next H) X:=h;rw[O] at h;exact bj e Δ ρ fp σ _ _ _ _ i.env h (λd t v T F h r=>q.next _ _ _ _ h<|i.ext r.ext) λo0 o0 o0 o0 o0 w x=>s.ext i w x
theorem ro(b:List E):∀ (a:List E) (σ:PH) (Q:List PV->PH->Prop),wes G c (a++b) ρ σ Q X=wes G c a ρ σ (λvs σ1=>wes G c b ρ σ1 (λws O=>Q (vs++ws) O) X) X
 |[]=>λσ Q=>rfl
 |e::s=>λσ Q=>by
  have:(λv σ1=>wes G c (s++b) ρ σ1 (λvs O=>Q (v::vs) O) X)=λv σ1=>wes G c s ρ σ1 (λvs σ1=>wes G c b ρ σ1 (λws O=>Q (v::(vs++ws)) O) X) X:=by
   funext v σ1;exact ro b s σ1 _
  exact Uk (λK=>we G c e ρ σ K X) this
theorem vR:∀ {l a:List E} {x:String} {b:List E},spl Δ l=Ja (a,x,b)->l=a++ .loc x::b:=λ{l}=>by
 induction l with
 |nil=>exact λh=>ns h
 |cons e r i=>
  intro a x b h;have t:(spl Δ r).map (λq=>(e::q.1,q.2))=Ja (a,x,b)->e::r=a++ .loc x::b:=λh=>by
   obtain⟨⟨Y,n,c⟩,p,w⟩:=Qu.mp h;cases w;exact Uk (e:: ·)<|i p
  replace h:splO Δ r ((spl Δ r).map λq=>(e::q.1,q.2)) (locOf e)=_:=h
  induction T:locOf e with
  |none=>rw[T] at h;exact t h
  |some y=>
   rw[T] at h;replace h:cond (ownD<|Δ.get y) _ _=_:=h;by_cases d:ownD (Δ.get y)=Jc
   ·rw[d] at h;cases h;rw[j6 T];rfl
   ·rw[Bool.not_eq_true] at d;rw[d] at h;exact t h
theorem rS{S:DSrc}{Δ:DRho}{fp:String->List Jg}{d:D}(i:Inv N S P Δ ρ σ fp)(ex:Δ.get x=Ja (d,Jc))(r:ERs σ fp σ' ds vs s):
  offs x ds=Jc->ArgsR σ' (lent ds) vs s/\owned (lent ds) s=[]/\∀F∈s,Disj (fp x) F:=by
 induction r with
 |nil=>exact λo0=>⟨.nil,rfl,λF h=>(bQ h)⟩
 |@cons X t v F ds vs s r p q h W=>
  intro j;obtain⟨k,u⟩:=Qh.mp (show(offT x t&&offs x ds)=Jc from j);obtain⟨E,Y,H⟩:=W u;refine⟨.cons r (λe=>(ft e)) (λp K e=> ?_) E,Y,λI J=> ?_⟩
  ·obtain⟨y,g⟩:=Ql.mp (Kr K).1
   rcases e with e|e
   ·exact ft e
   ·rw[<-g.2] at e;exact ft e
  ·cases J with
   |tail _ J=>exact H I J
   |head=>
    intro a T b;obtain⟨l,c⟩:=i.env.dom x a T
    induction t with
    |none=>have:=(p.own rfl).2 a b;exact sn<|c.symm.trans this
    |some Z=>
     rcases p.al Z rfl a b with w|⟨z,R,w⟩
     ·exact sn<|c.symm.trans w
     ·have n:z≠x:=by rintro rfl;simp[offT,mQ,R] at k
      exact i.sep x d ex z n a T w
theorem ArgsR.ext(C:ArgsR σ a v F)(x:Ext σ σ'):ArgsR σ' a v F:=by
 induction C with
 |nil=>exact .nil
 |cons r n d h i=>exact .cons (r.ext x) n d i
theorem ArgsR.app{a b:List (D×Bool)}(C:ArgsR σ a A O)(l:ArgsR σ b B I)(h:∀p∈a.zip O,∀q∈b.zip I,(p.1.2=Jc\/q.1.2=Jc)->Disj p.2 q.2):ArgsR σ (a++b) (A++B) (O++I):=by
 induction C with
 |nil=>exact l
 |@cons d c v F f w s r n j S i=>
  refine .cons r n (λp K e=> ?_) (i λp K q z=>h p (.tail _ K) q z);replace K:p∈(f++b).zip (s++I):=K;rw[List.zip_append (S.lens.2.symm)] at K
  rcases Qr.mp K with K|K
  ·exact j p K e
  ·exact h _ (.head _) p K e
theorem rW{a b:List (D×Bool)}{O I:List (List Jg)}(h:O.length=a.length):owned (a++b) (O++I)=owned a O++owned b I:=by
 induction a generalizing O with
 |nil=>induction O using List.casesOn with
  |nil=>rfl
  |cons=>cases h
 |cons p r i=>induction O using List.casesOn with
  |nil=>cases h
  |cons F s=>
   show(if p.2 then F else [])++owned (r++b) (s++I)=((if p.2 then F else [])++owned r s)++owned b I;rw[i (Nat.succ.inj h),KI]
theorem Inv.back{S:DSrc}{Δ:DRho}{ρ:Rho}{fp:String->List Jg}(i:Inv N S [] Δ ρ σ fp){d d':D}(e:Δ.get x=Ja (d,Jc))(X:ρ.get x=Ja v)(o:IoOK σ (fp x) σ' d' v F):
  Inv N S [] (Δ.put x (d',Jc)) ρ σ' (fset fp x F):=by
 obtain⟨j,c⟩:=i.move (d':= .hole) (A:=[]) (B:=[]) (F:=fp x) e X rfl (by rw[QO,KN]);obtain⟨u,o0⟩:=j.called c (i.env.dom x) o.kept;have T:=u.put (x:=x) (b:=Jc) o.rd (λo0=>⟨⟨o.nd,λb h=>(o.own b h).elim i.new0 ((i.own x d e).2 b)⟩,λy W b h q=>by
   rw[ct W] at q
   rcases o.own b h with w|w
   ·obtain⟨l,p⟩:=i.env.dom y b q;exact ns<|w.symm.trans p
   ·exact i.sep x d e y W b w q⟩) (λy g W o0 b h q=>by
   rw[ct W] at h
   rcases o.own b q with w|w
   ·obtain⟨l,p⟩:=i.env.dom y b h;exact ns<|w.symm.trans p
   ·exact i.sep x d e y W b w h) (λb h=>(o.own b h).elim (λw=>i.newS b (i.new0 w)) (i.src x b)) (λb h=>(bQ h)) (λw q=>by have:=i.pin x w q;obtain rfl:=sj (X.symm.trans this);rfl)
 rw[DRho.put_put,Rho.put_self _ X,mD] at T;exact T
theorem BX{args:List E}{fp:String->List Jg}(i:Inv N P [] Δ ρ σ fp)(h:dio G (aR cv) f Δ (λH=>Q .next H) (spl Δ args))(q:QR N P Q Q'):
  ws G cv cu (.expr<|.call f args) ρ σ Q' X':=by
 induction s:spl Δ args with
 |none=>rw[s] at h;exact h.elim
 |some t=>
  obtain⟨a,x,b⟩:=t;rw[s] at h;rw[vR s];refine⟨h.1,?_⟩;rw[ro];refine cP a Δ ρ fp σ _ _ _ _ i.env h.2 (λu A T J h x1 ra=> ?_) λo0 o0 o0 o0 o0 w o0=>w.elim;obtain⟨⟨d,o⟩,e,e',Y⟩:=dH h.2;cases e';obtain⟨v,W,o0⟩:=i.env.at_ x d Jc e;show oV _ (ρ.get x);rw[W];have S:=i.ext x1;refine cP b Δ ρ fp T _ _ _ _ S.env Y (λZ vb O I Y R rb=> ?_) λo0 o0 o0 o0 o0 w o0=>w.elim;have M:=S.ext R;obtain⟨v',n,r⟩:=M.env.at_ x d Jc e;obtain rfl:=sj<|W.symm.trans n;obtain⟨B,a2,a3⟩:=rS i e ra h.1;obtain⟨b1,b2,j⟩:=rS S e rb Y.1;have ow:owned (lent u++(d,Jc)::lent Z) (J++fp x::I)=fp x:=by
   rw[rW B.lens.2,a2];show fp x++owned (lent Z) I=fp x;rw[b2,QO]
  have ar:ArgsR O (lent u++(d,Jc)::lent Z) (A++v::vb) (J++fp x::I):=by
   refine(B.ext R).app (.cons r (λo0=>(i.own x d e).1) (λp K o0=>j _ (Kr K).2) b1) λp K w L U=> ?_;cases L with
   |head=>exact λc C k=>a3 _ (Kr K).2 c k C
   |tail _ L=>
    have X:∀ (l:List (D×Tag)),∀y∈lent l,y.2=Jd:=λl y g=>by
     obtain⟨z,o0,rfl⟩:=Ql.mp g;rfl
    rw[X _ _ (Kr K).1,X _ _ (Kr L).1] at U
    rcases U with U|U<;>exact ft U
  refine Y.2 O _ _ _ _ v ar (by
   have:A.length=u.length:=by have:=B.lens.1;rwa [Qd] at this
   rw[<-this,WO (QA _),Nat.sub_self];rfl) λd' V F hq o=> ?_
  rw[ow] at o;exact q.next _ _ _ _ hq<|M.back e W o
theorem zO{args:List E}:SDOK G cv cu (.expr (.call f args)):=λN P Δ ρ fp σ Q X Q' X' i p h q s=>by
 rcases (show dio G (aR cv) f Δ (λH=>Q .next H) (spl Δ args)\/dwe G (aR cv) (.call f args) Δ (λo0 o0=>Q .next Δ) (λc l=>X c l Δ) from h) with h|h
 ·exact BX i h q
 ·exact bj _ Δ ρ fp σ _ _ _ _ i.env h (λd t v T F h r=>q.next _ _ _ _ h<|i.ext r.ext) λo0 o0 o0 o0 o0 w x=>s.ext i w x
theorem zx(e:E):SDOK G cv cu (.expr e):=by
 induction e using E.casesOn with
 |meth o m args=>exact yH
 |call f args=>exact zO
 |_=>exact wv λo0 o0 o0=>rfl
theorem yS{P:DSrc}{tg:Tg}{body:DRho->bY->Prop}{body':Rho->PH->SPost->Prop}{chk:PH->Prop}
  (R:∀Δ ρ σ fp K K',Inv N P [] Δ ρ σ fp->body Δ K->QR N P K K'->body' ρ σ K')(M:∀σ,Ext N σ->chk σ)(q:QR N P Q Q')(X:∀a o,σ1 a=Ja o->o.fixed=Jc->N a=Ja o)(E:∀x∈tg.names,P.pin x=Jb):
  ∀ (xs:List D) (l:List PV) (Gx:List Jg) (Δ:DRho) (ρ:Rho) (σ:PH) (fp:String->List Jg),Inv N P [] Δ ρ σ fp->RdFs σ1 xs l Gx->(∀a∈Gx,N a=σ1 a/\P a)->fH tg body Q xs Δ->forGo chk tg body' Q' l ρ σ:=by
 intro xs
 induction xs with
 |nil=>
  intro l Gx Δ ρ σ fp i r C h;obtain⟨rfl,o0⟩:=r;exact⟨M σ i.kept,q.next _ _ _ _ h i⟩
 |cons d U A=>
  intro l Gx Δ ρ σ fp i V C h;obtain⟨p,s,j,Y,S,Z,v,I⟩:=V;subst S Z;refine⟨M σ i.kept,?_⟩;obtain⟨H,e,h⟩:=gZ h;have F:∀a∈j,N a=σ1 a/\P a:=λa T=>C a (Qj _ T);have b:RdF σ d p j:=v.ag ⟨λa T=>by
    obtain⟨l,c⟩:=v.dom a T;rw[c];exact i.kept a _ ((F a T).1.trans c),λa o k n=>i.kept a o (X a o k n)⟩
  have away:∀y e,Δ.get y=Ja (e,Jc)->Disj (fp y) j:=λy e w a T W=>by
   obtain⟨l,c⟩:=v.dom a W;have:=(i.own y e w).2 a T;rw[(F a W).1,c] at this;exact sn this
  obtain⟨z,f,Z,B⟩:=i.bindT b e (λR=>by rw[b.atom R];exact .nil) away (λa T=>(F a T).2) E;rw[Z];exact R H z σ f _ _ B h<|q.fl λJ t O g L u=>A s Y J t O g u I (λa T=>C a<|Qe _ T) L
theorem Bw(R:SDOKs G cv cu b):SDOK G cv cu (.for_ tg k V b):=λN P Δ ρ fp σ Q X Q' X' i t h q xr=>
 ⟨h.1,cP V Δ ρ fp σ _ _ _ _ i.env h.2 (λf vs T s h x r=>pT r h λxs l z Gx h J hl g C=>⟨hl,qd λO W=>by
  have A:=(i.ext x).frz (tjs f)
  let U:PH:=open Classical in λa=>if a∈s.flatten\/¬ (∃l:MO,T a=Ja l.1) then T a else N a
  have Y:∀a∈s.flatten,U a=T a:=λa H=>Uh<|.inl H;have I:∀a o,T a=Ja o->o.fixed=Jc->U a=Ja o:=λa o Z u=>(Uh (.inr λz'=>by obtain⟨l,e⟩:=z';obtain rfl:=sj<|Z.symm.trans e;exact ft<|l.2.symm.trans u)).trans Z;have B:Ext N T:=i.kept.trans x;have L:Ext N U:=λa o e=>by
   by_cases c:a∈s.flatten\/¬ (∃l:MO,T a=Ja l.1)
   ·exact(Uh c).trans (B a o e)
   ·exact(Ug c).trans e
  have n4:Ext U T:=λa o e=>by
   by_cases c:a∈s.flatten\/¬ (∃l:MO,T a=Ja l.1)
   ·exact(Uh c).symm.trans e
   ·exact B a o<|(Ug c).symm.trans e
  have i2:Inv U P [] (Δ.frz<|tjs f) ρ O fp:=by
   refine(Inv.mk A.env A.sep (λy d e=>⟨(A.own y d e).1,λa H=> ?_⟩) A.src n4 (λa H=>(bQ H)) (λa H=>i.newS a<|L.new H) A.pin:Inv U P [] (Δ.frz<|tjs f) ρ T fp).ext W;have D:=(A.own y d e).2 a H;have:¬ (a∈s.flatten\/¬ (∃l:MO,T a=Ja l.1)):=by
    rintro (c|c)
    ·exact i.away r.part e a H c
    ·exact c<|A.env.dom y a H
   exact(Ug this).trans D
  have n:=yS (N:=U) (P:=P) (tg:=tg) (chk:=z) (Q:=Q) (Q':=Q') (σ1:=T) (body:=λΔ K=>dwss G (aR cv) (aR cu) b Δ K λo0 o0 o0=>False) (body':=λρ σ K=>wss G cv cu b ρ σ K λo0 o0 o0=>False)
   (λΔ ρ σ fp K K' i h q=>R U P Δ ρ fp σ K _ K' _ i (t.imp λx e=>(Qh.mp (show(!tg.names.contains x&&S.noass x b)=Jc from e)).2) h q λo0 o0 o0 o0 o0 o0 o0 o0 w o0 o0 o0=>w) (λp k=>C p λa H=>by
    obtain⟨l,j⟩:=r.rds.dom a H;rw[j];exact k a _ ((Y a H).trans j))
   ⟨λΔ ρ σ fp w i=>q.next _ _ _ _ w<|i.less L A.newS,λd b Δ v ρ σ F w r=>q.ret _ _ _ _ _ _ _ w<|r.less L⟩ I (λy M=>t.off (show(!tg.names.contains y&&S.noass y b)=Jd by simp[M])) xs l Gx (Δ.frz<|tjs f) ρ O fp i2 J (λa H=>⟨Y a<|g a H,?_⟩) h
  ·exact n
  ·exact i.srcP r.part a (g a H)⟩) λo0 o0 o0 o0 o0 w x=>xr.ext i w x⟩
theorem QR.wipe{P:DSrc}(q:QR N P Q Q')(h:∀x,P.pin x=Jb)(x:String):QR N P (λfl J=>Q fl (if x="" then J else J.wipe)) (λfl D O=>Q' fl (D.unX x) O):=by
 refine⟨λΔ ρ σ fp w i=> ?_,λd b Δ v ρ σ F w r=>q.ret _ _ _ _ _ _ F w r⟩;unfold Rho.unX;by_cases hx:x=""
 ·rw[Uh hx] at w ⊢;exact q.next _ _ _ _ w i
 ·rw[Ug hx] at w ⊢;exact q.next _ _ _ _ w<|i.wipe h
theorem sY{P:DSrc}(U:SDOKs G.un cu cu h){Δ:DRho}{ρ:Rho}{fp:String->List Jg}{ws:List PV}(i:Inv N P [] Δ ρ σ fp)(r:RdFs σ ds ws F)(m:MOK N [] fp F)(n:∀x,P.pin x=Jb)(q:QR N P Q Q')
  (w:dwss G.un (aR cu) (aR cu) h (if x="" then Δ else Δ.put x (.exc c ds,Jc)) (λfl J=>Q fl<|if x="" then J else J.wipe) λo0 o0 o0=>False):
  mV ⟨c,ws⟩ σ λv O=>wss G.un cu cu h (ρ.bindX x v) O (λfl p O=>Q' fl (p.unX x) O) λo0 o0 o0=>False:=λa T=>by
 induction ws using List.casesOn with
 |nil=>
  have C:ds=[]:=Wx.mp r.len.symm;show wss G.un cu cu h (ρ.bindX x<|.ref a) (σ.set a<|.exc c Jb) _ _;have k:Ext σ (σ.set a<|.exc c Jb):=Ext.set T _;have A:=i.ext k;have R:∃f,Inv N P [] (if x="" then Δ else Δ.put x (.exc c ds,Jc)) (ρ.bindX x<|.ref a) (σ.set a<|.exc c Jb) f:=by
   unfold Rho.bindX;by_cases hx:x=""
   ·rw[Uh hx,Uh hx];exact⟨fp,A⟩
   ·rw[Ug hx,Ug hx];exact⟨_,A.put (F:=F) ⟨a,a,[],rfl,.inr ⟨PH.set_same _ _ _,rfl⟩,r.ext k⟩ (λo0=>⟨⟨m.nd,m.own⟩,λy o0 b R=>m.out b R y⟩) (λy e o0 o0 b R j=>m.out b j y R) (λb R=>i.newS b<|m.own b R) (λa h=>(bQ h)) λw e=>by rw[n] at e;exact ns e⟩
  obtain⟨f,W⟩:=R;exact U N P _ _ f _ _ _ _ _ W (λx v e=>by rw[n] at e;exact ns e) w (q.wipe n x) λo0 o0 o0 o0 o0 o0 o0 o0 w o0 o0 o0=>w
 |cons g s=>
  intro d M H;generalize B:g::s=ws at r;show wss G.un cu cu h (ρ.bindX x<|.ref a) ((σ.set d<|.fd c ws).set a (.exc c<|Ja d)) _ _;have X:(σ.set d<|.fd c ws) a=Jb:=(PH.set_ne _ _<|Ne.symm H).trans T;have k:Ext σ ((σ.set d<|.fd c ws).set a (.exc c<|Ja d)):=(Ext.set M _).trans (Ext.set X _);have A:=i.ext k;have R:∃f,Inv N P [] (if x="" then Δ else Δ.put x (.exc c ds,Jc)) (ρ.bindX x<|.ref a) ((σ.set d<|.fd c ws).set a (.exc c<|Ja d)) f:=by
   unfold Rho.bindX;by_cases hx:x=""
   ·rw[Uh hx,Uh hx];exact⟨fp,A⟩
   ·rw[Ug hx,Ug hx];exact⟨_,A.put (F:=F) ⟨a,d,ws,rfl,.inl ⟨PH.set_same _ _ _,(PH.set_ne _ _ H).trans (PH.set_same _ _ _)⟩,r.ext k⟩ (λo0=>⟨⟨m.nd,m.own⟩,λy o0 b R=>m.out b R y⟩) (λy e o0 o0 b R j=>m.out b j y R) (λb R=>i.newS b<|m.own b R) (λa h=>(bQ h)) λw e=>by rw[n] at e;exact ns e⟩
  obtain⟨f,W⟩:=R;exact U N P _ _ f _ _ _ _ _ W (λx v e=>by rw[n] at e;exact ns e) w (q.wipe n x) λo0 o0 o0 o0 o0 o0 o0 o0 w o0 o0 o0=>w
theorem yA(R:SDOKs G cv cu b)(U:SDOKs G.un cu cu h):SDOK G cv cu (.try1 b c x h):=λN P Δ ρ fp σ Q X Q' X' i p w q O=>
 ⟨w.1,R N P Δ ρ fp σ Q _ Q' _ i (λx v e=>by exact ns ((p.off rfl).symm.trans e)) w.2 q λe l ws u j T f F w A r m=>by
  show if G.sub e c then _ else False;by_cases s:G.sub e c=Jc
  ·rw[Uh s] at w ⊢;exact sY U A r m (λx=>p.off rfl) q w
  ·rw[Ug s] at w;exact w.elim⟩
theorem yp{tst:DRho->(Bool->Prop)->Prop}{body:DRho->bY->Prop}{t:Rho->PH->(Bool->PH->Prop)->Prop}{body':Rho->PH->SPost->Prop}
  (W:∀Δ ρ σ fp (K:Bool->Prop) (K':Bool->PH->Prop),Inv N P [] Δ ρ σ fp->tst Δ K->(∀b σ',K b->Ext σ σ'->K' b σ')->t ρ σ K')
  (R:∀Δ ρ σ fp K K',Inv N P [] Δ ρ σ fp->body Δ K->QR N P K K'->body' ρ σ K')(q:QR N P Q Q'):∀ (k:Nat) (Δ:DRho) (ρ:Rho) (σ:PH) (fp:String->List Jg),Inv N P [] Δ ρ σ fp->dwhGo tst body Q k Δ->whGo t body' Q' k ρ σ
 |0=>λo0 o0 o0 o0 o0 h=>h.elim
 |k+1=>λΔ ρ σ fp i h=>W Δ ρ σ fp _ _ i h λb σ' w x=>by
  induction b with
  |false=>exact q.next _ _ _ _ w<|i.ext x
  |true=>exact R Δ ρ σ' fp _ _ (i.ext x) w<|q.fl λJ D O f p u=>yp W R q k J D O f u p
theorem xP(R:SDOKs G cv cu b):SDOK G cv cu (.while_ t b):=λN P Δ ρ fp σ Q X Q' X' i p h q s=>by
 obtain⟨Y,k,h⟩:=(show G.calm=Jc/\∃k,dwhGo (λΔ K=>dwe G (aR cv) t Δ (λv o0=>dBool K v) λc l=>X c l Δ) (λΔ K=>dwss G (aR cv) (aR cu) b Δ K X) Q k Δ from h)
 refine⟨Y,k,yp (λΔ ρ σ fp K W i h n=> ?_) (λΔ ρ σ fp K W i h q=>R N P Δ ρ fp σ K X W X' i (p.imp λx e=>e) h q s) q k Δ ρ σ fp i h⟩;exact bj t Δ ρ fp σ _ _ _ _ i.env h (λd g v T F h r=>by
  obtain⟨c,rfl,h⟩:=eF h;rw[r.rd.1];exact n _ _ h r.ext) λo0 o0 o0 o0 o0 w x=>s.ext i w x
end
mutual
theorem Ad:∀ (s:S) (G:Gx) (cv cu:Cl),SDOK G cv cu s
 | .assign (.name _) _=>λo0 o0 o0=>zo
 | .assign (.tup _) _=>λo0 o0 o0=>By
 | .setIdx _ _ _=>λo0 o0 o0=>BH
 | .expr e=>λo0 o0 o0=>zx e
 | .ret _=>λo0 o0 o0=>A7
 | .if_ _ b o=>λG cv cu=>BU (fz b G cv cu)<|fz o G cv cu
 | .for_ _ _ _ b=>λG cv cu=>Bw<|fz b G cv cu
 | .while_ _ b=>λG cv cu=>xP<|fz b G cv cu
 | .raise _ _=>λo0 o0 o0=>wb
 | .try1 b _ _ h=>λG cv cu=>yA (fz b G cv cu)<|fz h G.un cu cu
theorem fz:∀ (s:List S) (G:Gx) (cv cu:Cl),SDOKs G cv cu s
 |[]=>λo0 o0 o0=>zU
 |s::r=>λG cv cu=>wP (Ad s G cv cu)<|fz r G cv cu
end
noncomputable def drho0(ps l:List String)(args:List (D×Bool)):DRho:=ps.zip (args.map Ja)++l.map λx=>(x,Jb)
noncomputable def fpz:List String->List (List Jg)->String->List Jg
 |x::P,F::s,y=>if y=x then F else fpz P s y
 |_,_,_=>[]
theorem oO(x:String):∀l:List String,DRho.get (l.map λx=>(x,Jb)) x=Jb
 |[]=>rfl
 |y::r=>by
  by_cases h:y=x
  ·simp[DRho.get_if,h]
  ·simp only[Qo,DRho.get_if,h,if_false];exact oO x r
structure Ent(σ:PH)(args:List (D×Bool))(Fs:List (List Jg))(Δ:DRho)(ρ:Rho)(fp:String->List Jg):Prop where
 env:EnvE σ Δ ρ fp
 at_:∀x d b,Δ.get x=Ja (d,b)->∃p∈args.zip Fs,p.1=(d,b)/\p.2=fp x
 any:∀x,∀a∈fp x,∃p∈args.zip Fs,a∈p.2
 sep:∀x d,Δ.get x=Ja (d,Jc)->∀y,y≠x->Disj (fp x) (fp y)
theorem ent(l:List String):∀ (ps:List String) (args:List (D×Bool)) (vs:List PV) (s:List (List Jg)),ps.length=args.length->ArgsR σ args vs s->Ent σ args s (drho0 ps l args) (ps.zip (vs.map Ja)++l.map λx=>(x,Jb)) (fpz ps s)
 |[]=>λargs vs s H i=>by
  cases i with
  |cons=>cases H
  |nil=>
   have S:∀x q,DRho.get (drho0 [] l []) x≠Ja q:=λx q e=>by
    rw[show DRho.get (drho0 [] l []) x=Jb from oO x l] at e;exact ns e
   refine⟨⟨λx d b e=>absurd e<|S x _,λx a T=>(bQ T),?_⟩,λx d b e=>absurd e<|S x _,λx a T=>(bQ T),λx d e=>absurd e<|S x _⟩;simp only[drho0,List.zip_nil_left,KN,QB];rfl
 |x::ps=>λargs vs s H i=>by
  cases i with
  |nil=>cases H
  |@cons d b v F E vs s r nd j h=>
   have e:=ent l ps E vs s (Nat.succ.inj H) h;have g:DRho.get (drho0 (x::ps) l ((d,b)::E)) x=Ja (d,b):=by simp[drho0,DRho.get_if]
   have S:∀y,y≠x->DRho.get (drho0 (x::ps) l ((d,b)::E)) y=DRho.get (drho0 ps l E) y:=λy W=>by
    show DRho.get ((x,Ja (d,b))::drho0 ps l E) y=_;rw[DRho.get_if,Ug λq=>W q.symm]
   have K:fpz (x::ps) (F::s) x=F:=Uh rfl;have f:∀y,y≠x->fpz (x::ps) (F::s) y=fpz ps s y:=λy W=>Ug W;refine⟨⟨λy X G q=> ?_,λy a T=> ?_,?_⟩,λy X G q=> ?_,λy a T=> ?_,λy X q z A a T R=> ?_⟩
   ·by_cases W:y=x
    ·subst W;rw[g] at q;cases q;rw[K];exact⟨v,by simp[Rho.get_c],r⟩
    ·rw[S y W] at q;rw[f y W];obtain⟨w,N,Y⟩:=e.env.at_ y X G q;refine⟨w,?_,Y⟩;show(if x=y then Ja v else _)=_;rw[Ug λq=>W q.symm];exact N
   ·by_cases W:y=x
    ·subst W;rw[K] at T;exact r.dom a T
    ·rw[f y W] at T;exact e.env.dom y a T
   ·have:=e.env.keys;simp only[drho0,Qo,Wz,List.cons_append] at this ⊢;exact Uk _ this
   ·by_cases W:y=x
    ·subst W;rw[g] at q;cases q;exact⟨((d,b),F),.head _,rfl,K.symm⟩
    ·rw[S y W] at q;obtain⟨p,N,Y,J⟩:=e.at_ y X G q;exact⟨p,.tail _ N,Y,J.trans (f y W).symm⟩
   ·by_cases W:y=x
    ·subst W;rw[K] at T;exact⟨((d,b),F),.head _,T⟩
    ·rw[f y W] at T;obtain⟨p,N,Y⟩:=e.any y a T;exact⟨p,.tail _ N,Y⟩
   ·by_cases W:y=x
    ·subst W;rw[g] at q;cases q;rw[K] at T;rw[f z A] at R;obtain⟨p,N,Y⟩:=e.any z a R;exact j p N (.inl rfl) a T Y
    ·rw[S y W] at q;rw[f y W] at T;by_cases c:z=x
     ·subst c;rw[K] at R;obtain⟨p,N,Y,J⟩:=e.at_ y X Jc q;exact j p N (.inr<|by rw[Y]) a R<|by rw[J];exact T
     ·rw[f z c] at R;exact e.sep y X q z A a T R
theorem ma:∀ (args:List (D×Bool)) (s:List (List Jg)) (a:Jg),(∃p∈args.zip s,p.1.2=Jc/\a∈p.2)->a∈owned args s
 |[],_=>λa r=>by obtain⟨p,h,o0⟩:=r;cases h
 |_::_,[]=>λa r=>by obtain⟨p,h,o0⟩:=r;cases h
 |(d,b)::f,F::s=>λa r=>by
  obtain⟨p,h,N,Y⟩:=r;cases h with
  |head=>cases N;exact Qj _ Y
  |tail _ h=>exact Qe _<|ma f s a ⟨p,h,N,Y⟩
theorem ArgsR.nd{args:List (D×Bool)}(h:ArgsR σ args vs F):∀p∈args.zip F,p.1.2=Jc->p.2.Nodup:=by
 induction h with
 |nil=>intro p K;cases K
 |cons r nd d h i=>
  intro p K e;cases K with
  |head=>exact nd e
  |tail _ K=>exact i p K e
noncomputable def keep(σ:PH)(O:List Jg):PH:=λa=>if a∈O then Jb else σ a
theorem jd(h:keep σ O a=Jb):σ a=Jb\/a∈O:=by
 by_cases q:a∈O
 ·exact .inr q
 ·exact .inl<|(Ug q).symm.trans h
theorem jA(x:Ext (keep σ O) σ'):jt O σ σ':=λa o e h=>x a o<|(Ug h).trans e
theorem qp:∀ (args:List (D×Bool)) (s:List (List Jg)),∀a∈owned args s,a∈s.flatten:=λargs=>by
 induction args with
 |nil=>intro s a h;cases h
 |cons p r i=>
  intro s a h
  induction s using List.casesOn with
  |nil=>cases h
  |cons F s=>
   rcases Qr.mp (show a∈(if p.2 then F else [])++owned r s from h) with q|q
   ·induction K:p.2 with
    |true=>rw[K] at q;exact Qj _ q
    |false=>rw[K] at q;cases q
   ·exact Qe _<|i s a q
theorem inv0{ps:List String}(l:List String){args:List (D×Bool)}{vs:List PV}{F:List (List Jg)}(H:ps.length=args.length)(r:ArgsR σ args vs F)(i:String->Option PV)
  (K:∀x v,i x=Ja v->Rho.get (ps.zip (vs.map Ja)++l.map λx=>(x,Jb)) x=Ja v):
  Inv (keep σ<|owned args F) ⟨λa=>σ a=Jb\/a∈F.flatten,i⟩ [] (drho0 ps l args) (ps.zip (vs.map Ja)++l.map λx=>(x,Jb)) σ (fpz ps F):=by
 have e:=ent l ps args vs F H r;refine⟨e.env,e.sep,λx d q=> ?_,λx a T=> ?_,λa o h=> ?_,λa T=>(bQ T),λa h=>(jd h).imp_right (qp args F a),K⟩
 ·obtain⟨p,N,Y,J⟩:=e.at_ x d Jc q;rw[<-J];exact⟨r.nd p N<|by rw[Y],λa T=>Uh<|ma _ _ a ⟨p,N,by rw[Y],T⟩⟩
 ·obtain⟨p,N,Y⟩:=e.any x a T;exact .inr<|List.mem_flatten.mpr ⟨p.2,(Kr N).2,Y⟩
 ·by_cases q:a∈owned args F
  ·rw[keep,Uh q] at h;exact ns h
  ·rw[keep,Ug q] at h;exact h
abbrev Runs(G:Gx)(J c w:Cl)(f:String)(ps l:List String)(b:List S):Prop:=
 ∀ (t:PH) (s:List PV) (Q:Post) (H:XPost),s.length=ps.length->wss G J c b (ps.zip (s.map Ja)++l.map λx=>(x,Jb)) t (λfl o0 X=>match fl with
   | .next=>Q .none X
   | .ret v=>Q v X) (λx o0 X=>H x X)->w f s t Q H
noncomputable def dend(Q:D->Bool->Prop):bY:=λfl o0=>match fl with
 | .next=>Q .none Jc
 | .ret d b=>Q d b
theorem yE{ps s:List String}{args:List (D×Bool)}{Q:D->Bool->Prop}(M:ps.length=args.length)
  (w:dwss G (aR J) (aR u) b (drho0 ps s args) (dend Q) λc l o0=>X c l)(K:Runs G J u W f ps s b):aR W f args Q X:=λt O I P y U k N=>by
 have i:=inv0 s M U (λo0=>Jb) λo0 o0 q=>(ns q)
 refine K t O P y (U.lens.1.trans M.symm)<|fz b G J u _ _ _ _ _ t _ _ _ _ i (λx v q=>(ns q)) w ⟨λj L T p h n=> ?_,λd b j v L T F h r=> ?_⟩ λc z ws j L T p F h n r m=>N c z ws T F h ⟨r,jA n.kept,m.nd,λa H=>jd<|m.own a H⟩
 ·exact k _ _ _ _ [] h ⟨⟨rfl,rfl⟩,jA n.kept,λo0=>⟨.nil,λa h=>(bQ h)⟩,λa h=>(bQ h)⟩
 ·exact k _ _ _ _ F h ⟨r.rd,jA r.kept,λe=>⟨(r.own e).1,λa H=>jd<|(r.own e).2 a H⟩,r.src⟩
def dendI(x:String)(Q:D->Prop):bY:=λfl L=>match fl with
 | .next=>dOE (λp=>p.2=Jc/\Q p.1) (L.get x)
 | .ret _ _=>False
theorem tS:∀ (ps:List String) (vs:List PV) (i:Nat),ps.Nodup->ps[i]? =Ja x->vs[i]? =Ja v->Rho.get (ps.zip (vs.map Ja)++r) x=Ja v
 |p::ps,[],i,_,_,h=>by exact ns h
 |p::ps,w::vs,0,_,N,Y=>by obtain rfl:=sj N;obtain rfl:=sj Y;simp[Rho.get_c]
 |p::ps,w::vs,i+1,o,N,Y=>by
  have n:p≠x:=by
   rintro rfl;exact(Qz.mp o).1 (QE (show ps[i]? =Ja p from N))
  show(if p=x then Ja w else _)=_;rw[Ug n];exact tS ps vs i (Qz.mp o).2 N Y
theorem vY{ps l:List String}{args:List (D×Bool)}{Q:D->Prop}(H:ps.length=args.length)(g:ps.Nodup)(hx:ps[i]? =Ja x)(T:S.noass x b=Jc)
  (w:dwss G (aR c) (aR j) b (drho0 ps l args) (dendI x Q) λo0 o0 o0=>False)(K:Runs G c j J f ps l b):(aR J).io f i args Q:=λt s B M m v U Y k=>by
 have O:=inv0 l H U (λy=>if y=x then Ja v else Jb) λy u q=>by
  by_cases W:y=x
  ·obtain rfl:=sj<|(Uh W).symm.trans q;subst W;exact tS ps s i g hx Y
  ·exact ns<|(Ug W).symm.trans q
 refine K t s M m (U.lens.1.trans H.symm)<|fz b G c j _ _ _ _ _ t _ _ _ _ O (λy u q=> ?_) w ⟨λL I X Z h n=> ?_,λd b L v I X F h r=>h.elim⟩ λo0 o0 o0 o0 o0 o0 o0 o0 h o0 o0 o0=>h.elim
 ·by_cases W:y=x
  ·subst W;exact T
  ·replace q:(if y=x then Ja v else Jb)=Ja u:=q;exact ns<|(Ug W).symm.trans q
 ·obtain⟨⟨d,o⟩,e,A,z⟩:=dH (show dOE (λp=>p.2=Jc/\Q p.1) (L.get x) from h);cases A;obtain⟨u,R,r⟩:=n.env.at_ x d Jc e;have:=n.pin x v<|if_pos rfl;obtain rfl:=sj<|R.symm.trans this;exact k d X _ z ⟨r,(n.own x d e).1,λa T=>jd<|(n.own x d e).2 a T,jA n.kept⟩
section
variable{G:Gx}{cl cu:DCl}{Δ:DRho}{X:DX}
section
variable{Q:DQ}
theorem fQ:dwe G cl (.none) Δ Q X=(Q .none Jb):=rfl
theorem bV(b):dwe G cl (.bool b) Δ Q X=(Q (.bool b) Jb):=rfl
theorem aN(i):dwe G cl (.int i) Δ Q X=(Q (.int i) Jb):=rfl
theorem dq(s):dwe G cl (.str s) Δ Q X=(Q (.str s) Jb):=rfl
theorem aD(x):dwe G cl (.loc x) Δ Q X=(dOE (λp=>Q p.1 (tg0 p.1 (Ja [x]))) (Δ.get x)):=rfl
theorem cg(x):dwe G cl (.glob x) Δ Q X=(dglob Q (G.glob x)):=rfl
theorem bq(op a b):dwe G cl (.bin op a b) Δ Q X=(dwe G cl a Δ (λv t=>dwe G cl b Δ (λq l=>dbin op v q t l Q) X) X):=rfl
theorem bC(a):dwe G cl (.not_ a) Δ Q X=(dwe G cl a Δ (λv o0=>dBool (λb=>Q (.bool !b) Jb) v) X):=rfl
theorem cf(a b):dwe G cl (.and_ a b) Δ Q X=(dwe G cl a Δ (λv o0=>dBool (λb'=>cond b' (dwe G cl b Δ Q X) (Q (.bool Jd) Jb)) v) X):=rfl
theorem b7(a b):dwe G cl (.or_ a b) Δ Q X=(dwe G cl a Δ (λv o0=>dBool (λb'=>cond b' (Q (.bool Jc) Jb) (dwe G cl b Δ Q X)) v) X):=rfl
theorem hM(a):dwe G cl (.isNone a) Δ Q X=(dwe G cl a Δ (λv o0=>i4 v=Jd/\Q (.bool v.isNone) Jb) X):=rfl
theorem d5(a):dwe G cl (.notNone a) Δ Q X=(dwe G cl a Δ (λv o0=>i4 v=Jd/\Q (.bool !v.isNone) Jb) X):=rfl
theorem aU(op a b):dwe G cl (.cmp op a b) Δ Q X=(dwe G cl a Δ (λv o0=>dwe G cl b Δ (λq o0=>dcmp op v q λr=>Q (.bool r) Jb) X) X):=rfl
theorem ou(a o1 b o2 c):dwe G cl (.cmp2 a o1 b o2 c) Δ Q X=(dwe G cl a Δ (λA o0=>dwe G cl b Δ (λv o0=>dcmp o1 A v λr=>cond r (dwe G cl c Δ (λj o0=>dcmp o2 v j λr=>Q (.bool r) Jb) X) (Q (.bool Jd) Jb)) X) X):=rfl
theorem bM(l):dwe G cl (.tup l) Δ Q X=(dwes G cl l Δ (λvs=>dtup (fsts vs) (tjs vs) Q) X):=rfl
theorem bJ(l):dwe G cl (.list l) Δ Q X=(dwes G cl l Δ (λvs=>dnew (fsts vs) (tjs vs) Q) X):=rfl
theorem aQ(a i):dwe G cl (.sub a i) Δ Q X=(dwe G cl a Δ (λA t=>dwe G cl i Δ (λC o0=>dOD (λv=>Q v (tg0 v t)) (dsub A C)) X) X):=rfl
theorem tF(a hi):dwe G cl (.upto a hi) Δ Q X=(dwe G cl a Δ (λv t=>dwe G cl hi Δ (λi o0=>dInt (λk=>kc (λl=>l.take (cut l.length k)) (λn=>0<=k/\k<n) t Q v) i) X) X):=rfl
theorem sS(a lo):dwe G cl (.from_ a lo) Δ Q X=(dwe G cl a Δ (λv t=>dwe G cl lo Δ (λi o0=>dInt (λk=>kc (λl=>l.drop (cut l.length k)) (λn=>1<=k/\k<=n) t Q v) i) X) X):=rfl
theorem aL(f args):dwe G cl (.call f args) Δ Q X=(G.fn f=Jc/\dwes G cl args Δ (λvs=>cl f (flags vs) (λd b=>Q d (tg0 d (cond b Jb (tj (Ja []) (tjs vs))))) X) X):=rfl
theorem bk(b args):dwe G cl (.bi b args) Δ Q X=((b.quiet=Jc\/G.calm=Jc)/\dwes G cl args Δ (λvs=>dbi b vs Q) X):=rfl
theorem cp(a ts):dwe G cl (.isi a ts) Δ Q X=(((ts.length=1/\∀t∈ts,t∈ ["int","bool","list","tuple","dict"])\/G.full=Jc)/\dwe G cl a Δ (λv o0=>oB (λb=>Q (.bool b) Jb) (disiG G v ts)) X):=rfl
theorem j9:dwe G cl (.dict0) Δ Q X=(G.full=Jc/\Q (.dict [] []) Jb):=rfl
theorem wF(a k):dwe G cl (.get a k) Δ Q X=(dwe G cl a Δ (λA t=>dDct (λks l=>dwe G cl k Δ (λv o0=>oK (λk=>dget t Q (dlook ks l k)) (keyD v)) X) A) X):=rfl
theorem eT(x f):dwe G cl (.attr x f) Δ Q X=(dOE (λp=>dOD (λd=>Q d (tg0 d (Ja [x]))) (dfld G f p.1)) (Δ.get x)):=rfl
theorem m7(ix a):dwe G cl (.cnt ix a) Δ Q X=(dwe G cl a Δ (λv o0=>dLst (λl=>oBs (λbs=>wcnt ix bs λi=>Q (.int i) Jb) (gP l)) v) X):=rfl
theorem d9(f o args):dwe G cl (.mcall f o args) Δ Q X=(G.fn f=Jc/\dwe G cl o Δ (λr t=>dIns r/\dwes G cl args Δ (λvs=>cl f (flags ((r,t)::vs)) (λd b=>Q d (tg0 d (cond b Jb (tj (Ja []) (tjs ((r,t)::vs)))))) X) X) X):=rfl
end
section
variable{Q:List (D×Tag)->Prop}
theorem aE:dwes G cl [] Δ Q X=(Q []):=rfl
theorem aA(e es):dwes G cl (e::es) Δ Q X=(dwe G cl e Δ (λv t=>dwes G cl es Δ (λvs=>Q ((v,t)::vs)) X) X):=rfl
end
end
section
variable{G:Gx}{cl cu:DCl}{Δ:DRho}{Q:bY}{X:DSX}
end
section
variable{G:Gx}{cl cu:DCl}{Δ:DRho}{Q:bY}{X:DSX}{r:List S}
theorem bt(h:dwe G cl e Δ (λd t=>dwss G cl cu r ((Δ.frz t).put x (d,t.isNone)) Q X) λc l=>X c l Δ):dwss G cl cu (.assign (.name x) e::r) Δ Q X:=h
theorem dS(h:dwe G cl e Δ (λd t=>dOR (λP=>dwss G cl cu r P Q X) (dW (.tup xs) d t.isNone (Δ.frz t))) λc l=>X c l Δ):dwss G cl cu (.assign (.tup xs) e::r) Δ Q X:=h
theorem ca(h:dwe G cl t Δ (λv o0=>dBool (λc=>cond c (dwss G cl cu b Δ (donFl (λi=>dwss G cl cu r i Q X) Q) X) (dwss G cl cu o Δ (donFl (λi=>dwss G cl cu r i Q X) Q) X)) v) λc l=>X c l Δ):dwss G cl cu (.if_ t b o::r) Δ Q X:=h
theorem bK(h:dwe G cl e Δ (λd t=>Q (.ret d t.isNone) Δ) λc l=>X c l Δ):dwss G cl cu (.ret e::r) Δ Q X:= .inr h
theorem df(h:dwm G cl e Δ λd P=>Q (.ret d Jc) P):dwss G cl cu (.ret e::r) Δ Q X:= .inl h
theorem vh(h:dexpr G cl e Δ (λP=>dwss G cl cu r P Q X) X):dwss G cl cu (.expr e::r) Δ Q X:=h
theorem rO(h:dwm G cl e Δ (λd u=>dpath G cl o u (λx ps n=>dwe G cl i u (λj o0=>dsetI n j d λdn'=>dput u x ps dn' λP=>dwss G cl cu r P Q X) λo0 o0=>False) λo0 o0=>False)):dwss G cl cu (.setIdx o i e::r) Δ Q X:=h
theorem jr(C:G.calm=Jc)(k:Nat)(h:dwhGo (λΔ K=>dwe G cl t Δ (λv o0=>dBool K v) λc l=>X c l Δ) (λΔ K=>dwss G cl cu b Δ K X) (donFl (λi=>dwss G cl cu r i Q X) Q) k Δ):dwss G cl cu (.while_ t b::r) Δ Q X:=⟨C,k,h⟩
theorem d3{k:IK}(C:k.isZ=Jd\/G.calm=Jc)(h:dwes G cl t Δ (λvs=>dsrc k (fsts vs) λxs=>fH tg (λΔ K=>dwss G cl cu b Δ K λo0 o0 o0=>False) (donFl (λi=>dwss G cl cu r i Q X) Q) xs (Δ.frz (tjs vs))) λc l=>X c l Δ):
  dwss G cl cu (.for_ tg k t b::r) Δ Q X:=⟨C,h⟩
theorem hX{K:DRho->Prop}(h:K Δ):donFl K Q .next Δ:=h
end
theorem j3{L:Type}{el:DRho->DQ->Prop}{K:List D->Tag->Prop}(g f:L->D)(h:L->Prop)(U:∀a,h a->∀K:DQ,K (f a) Jb->dOR (λP=>el P K) (bI tg (g a) Δ)):
  ∀ (l:List L) (c:List D),(∀a∈l,h a)->K (c++l.map f) Jb->dcomp tg Δ ts (λo0 K=>K Jc) el (l.map g) c Jb K
 |[]=>λc o0 k=>by rw[Wm,QO] at k;exact k
 |a::l=>λc T k=>by
  obtain⟨P,e,w⟩:=gZ (U a (T a (.head _)) (λd u=>dcomp tg Δ ts (λo0 K=>K Jc) el (l.map g) (c++[d]) (tj Jb (tout tg.names ts u)) K)
   (j3 g f h U l (c++[f a]) (λb R=>T b (.tail _ R)) (by rw[KI];exact k)))
  show dOR _ (bI tg (g a) Δ);rw[e];exact w
theorem fi{L:Type}{tst:DRho->(Bool->Prop)->Prop}{el:DRho->DQ->Prop}{K:List D->Tag->Prop}(g f:L->D)(p:L->Bool)(h:L->Prop)
  (u:∀a,h a->dOR (λP=>(∀T:Bool->Prop,T (p a)->tst P T)/\(p a=Jc->∀K:DQ,K (f a) Jb->el P K)) (bI tg (g a) Δ)):
  ∀ (l:List L) (c:List D),(∀a∈l,h a)->K (c++(l.filter p).map f) Jb->dcomp tg Δ ts tst el (l.map g) c Jb K
 |[]=>λc o0 k=>by rw[List.filter_nil,Wm,QO] at k;exact k
 |a::l=>λc H k=>by
  obtain⟨P,e,A,w⟩:=gZ<|u a (H a<|.head _);show dOR _ (bI tg (g a) Δ);rw[e];refine A _ ?_
  induction U:p a with
  |true=>
   rw[Kt U] at k;exact w U _<|fi g f p h u l (c++[f a]) (λb R=>H b<|.tail _ R) (by rw[KI];exact k)
  |false=>
   rw[Ku (by rw[U];exact QC)] at k;exact fi g f p h u l c (λb R=>H b<|.tail _ R) k
theorem ph{L:Type}{body:DRho->bY->Prop}(g:L->D)(I:Nat->DRho->Prop)(R:Nat->D->Bool->Prop):∀ (l:List L) (i:Nat) (Δ:DRho),I i Δ->
  (∀ (j:Nat) (a:L) (Δ:DRho),l[j]? =Ja a->I (i+j) Δ->∀K:bY,(∀P,I (i+j+1) P->K .next P)->(∀d b P,R (i+j) d b->K (.ret d b) P)->dOR (λP=>body P K) (dW tg (g a) (g a).atom Δ))->
  (∀P,I (i+l.length) P->Q .next P)->(∀j d b P,j<l.length->R (i+j) d b->Q (.ret d b) P)->fH tg body Q (l.map g) Δ
 |[]=>λi Δ U o0 q o0=>q Δ U
 |a::l=>λi Δ U h q Z=>by
  obtain⟨P,e,w⟩:=gZ (h 0 a Δ rfl U (donFl (λJ=>fH tg body Q (l.map g) J) Q) (λJ Y=>ph g I R l (i+1) J Y (λj b Δ H p K k C=>by
    rw[QP] at p;exact h (j+1) b Δ H p K (λP z=>k P (by rw[QP i 1 j];exact z)) λd b P z=>C d b P (by rw[QP i 1 j];exact z))
   (λP z=>q P (by rw[Wi,<-Nat.add_assoc,<-QP];exact z)) λj d b P H z=>Z (j+1) d b P (Yp H) (by rw[<-Nat.add_assoc,<-QP];exact z)) λd b P z=>Z 0 d b P (Ye _) z)
  show dOR _ (dW tg (g a) (g a).atom Δ);rw[e];exact w
theorem dK{L:Type}{body:DRho->bY->Prop}(g:L->D)(I:Nat->DRho->Prop)(l:List L)(Δ:DRho)(i:I 0 Δ)
  (h:∀ (j:Nat) (a:L) (Δ:DRho),l[j]? =Ja a->I j Δ->∀K:bY,(∀P,I (j+1) P->K .next P)->dOR (λP=>body P K) (dW tg (g a) (g a).atom Δ))(q:∀P,I l.length P->Q .next P):fH tg body Q (l.map g) Δ:=
 ph g I (λo0 o0 o0=>False) l 0 Δ i (λj a Δ e p K k o0=>by rw[Ww] at p k;exact h j a Δ e p K k) (λP z=>by rw[Ww] at z;exact q P z) λo0 o0 o0 o0 o0 z=>z.elim
theorem j7{L:Type}{body:DRho->bY->Prop}(g:L->D)(I:DRho->Prop)(p:L->Bool)(d:D)(b:Bool):∀ (l:List L) (Δ:DRho),I Δ->
  (∀ (a:L) (Δ:DRho),a∈l->I Δ->∀K:bY,(p a=Jd->∀P,I P->K .next P)->(p a=Jc->∀P,K (.ret d b) P)->dOR (λP=>body P K) (dW tg (g a) (g a).atom Δ))->
  (l.any p=Jd->∀P,I P->Q .next P)->(l.any p=Jc->∀P,Q (.ret d b) P)->fH tg body Q (l.map g) Δ
 |[]=>λΔ i o0 q o0=>q rfl Δ i
 |a::l=>λΔ i h q Z=>by
  obtain⟨P,e,w⟩:=gZ (h a Δ (.head _) i (donFl (λJ=>fH tg body Q (l.map g) J) Q) (λU J B=>j7 g I p d b l J B (λY Δ T=>h Y Δ<|.tail _ T) (λz=>q<|by rw[Yn,U];exact z) λz=>Z<|by rw[Yn,U];exact z) λU J=>Z (by rw[Yn,U];rfl) J);show dOR _ (dW tg (g a) (g a).atom Δ);rw[e];exact w
section
variable{Q:DQ}{K:Bool->Prop}{ta tb:Tag}
theorem cI(x y:Int):dbin .add (.int x) (.int y) ta tb Q=Q (.int (x+y)) Jb:=rfl
theorem cT(x y:Int):dbin .sub (.int x) (.int y) ta tb Q=Q (.int (x-y)) Jb:=rfl
theorem nE(x y:Int):dbin .mul (.int x) (.int y) ta tb Q=((x.natAbs<2^64\/y.natAbs<2^64)/\Q (.int (x*y)) Jb):=rfl
theorem fq(x y:Int):dbin .fdiv (.int x) (.int y) ta tb Q=(y≠0/\y.natAbs<1073741824/\Q (.int (x.fdiv y)) Jb):=rfl
theorem cy(x y:Int):dbin .mod (.int x) (.int y) ta tb Q=(y≠0/\Q (.int (x.fmod y)) Jb):=rfl
theorem pZ(x y:Int):dbin (.pow ()) (.int x) (.int y) ta tb Q=(0<=y/\y<=1000/\x.natAbs<2^64/\Q (.int (x^y.toNat)) Jb):=rfl
theorem iy(x y:List D):dbin .add (.list x) (.list y) ta tb Q=dnew (x++y) (tgl (x++y) (tj ta tb)) Q:=rfl
theorem l5(x y:Int):dcmp .lt (.int x) (.int y) K=K (decide (x<y)):=rfl
theorem pI(x y:Int):dcmp .le (.int x) (.int y) K=K (decide (x<=y)):=rfl
theorem ki(x y:Int):dcmp (.gt ()) (.int x) (.int y) K=K (decide (x>y)):=rfl
theorem oX(x y:Int):dcmp .ge (.int x) (.int y) K=K (decide (x>=y)):=rfl
theorem bX(x y:Int):D.eqv (.int x) (.int y)=decide (x=y):=rfl
theorem uN(x y:Bool):D.eqv (.bool x) (.bool y)=(x==y):=by rcases x with⟨⟩<;>rcases y with⟨⟩<;>rfl
theorem jm{n:Nat}{k:Int}(i:0<=k)(h:k<n):place n k=Ja k.toNat:=by unfold place;rw[Uh i,Uh h]
theorem gJ(h:i<n):place n (i:Int)=Ja i:=by rw[jm (by exact QU _) (by exact QZ.mpr h)];rfl
end
theorem fF{a b:Int}(h:0<b):0<=a.fmod b/\a.fmod b<b:=⟨Int.fmod_nonneg_of_pos a h,Int.fmod_lt_of_pos a h⟩
theorem cW{p:Prop}[Decidable p]{a b:Prop}(N:p->a)(Y:¬p->b):cond (decide p) a b:=by
 by_cases h:p
 ·rw[Ud h];exact N h
 ·rw[Ue h];exact Y h
theorem aX(p:String)(ps l:List String)(a:D×Bool)(as:List (D×Bool)):drho0 (p::ps) l (a::as)=Nb p a.2 a.1 (drho0 ps l as):=rfl
theorem b8(p:String)(l:List String):drho0 [] (p::l) []=No p Jb (drho0 [] l []):=rfl
theorem bp:drho0 [] [] []=[]:=rfl
theorem cV(x:String)(Δ:DRho):im (.name x) Δ=No ".0" Jb (No x Jb Δ):=rfl
theorem BK(x y:String)(Δ:DRho):im (.tup [x,y]) Δ=No ".0" Jb (No x Jb (No y Jb Δ)):=rfl
theorem aH{L u:Type}(f:L->u)(a:L)(l:List L):(a::l).map f=f a::l.map f:=rfl
theorem aI{L u:Type}(f:L->u):([]:List L).map f=[]:=rfl
theorem aT{L:Type}(a:L)(l:List L):(a::l).length=l.length+1:=rfl
theorem aV{L:Type}:([]:List L).length=0:=rfl
theorem eL{L:Type}(a:L)(l m:List L):(a::l)++m=a::(l++m):=rfl
theorem bN{L:Type}(m:List L):[]++m=m:=rfl
theorem et{L u:Type}(f:L->u):(Jb:Option L).map f=Jb:=rfl
theorem aS{L:Type}(a:L):(Ja a).isNone=Jd:=rfl
theorem aF{L:Type}:(Jb:Option L).isNone=Jc:=rfl
theorem aB{L:Sort u}(a b:L):cond Jc a b=a:=rfl
theorem aC{L:Sort u}(a b:L):cond Jd a b=b:=rfl
theorem ch:(!Jc)=Jd:=rfl
theorem i9:(!Jd)=Jc:=rfl
theorem dt(b:Bool):(Jc&&b)=b:=rfl
theorem bD(b:Bool):(Jd&&b)=Jd:=rfl
theorem jQ(b:Bool):(Jc||b)=Jc:=rfl
theorem jJ(b:Bool):(Jd||b)=b:=rfl
theorem wY{l:List Int}{i:Int}(U:0<=i)(h:i<l.length):dsub (.scr l) (.int i)=Ja (.int (l[i.toNat]?.getD 0)):=by
 show((place l.length i).bind λj=>l[j]?).map D.int=_;rw[jm U h];show(l[i.toNat]?).map D.int=_;rw[Qf (show i.toNat<l.length by exact(Wf U).mpr h)];rfl
theorem fM{l:List Int}{i:Int}(U:0<=i)(h:i<l.length):dsub (.list (l.map .int)) (.int i)=Ja (.int (l[i.toNat]?.getD 0)):=by
 show((place (l.map D.int).length i).bind λj=>(l.map D.int)[j]?)=_;rw[Qd,jm U h];show(l.map D.int)[i.toNat]? =_;rw[Qw,Qf (show i.toNat<l.length by exact(Wf U).mpr h)];rfl
theorem ir{l:List D}{j:Nat}{v:D}(h:l[j]? =Ja v):dsub (.list l) (.int j)=Ja v:=by
 have H:j<l.length:=by
  rcases Nat.lt_or_ge j l.length with q|q
  ·exact q
  ·exact ns<|(KX q).symm.trans h
 show((place l.length (j:Int)).bind λj=>l[j]?)=_;rw[gJ H];exact h
section
variable{G:Gx}
theorem yq(i:Int):disiG G (.int i) ["int"]=Ja Jc:=rfl
theorem yo(i:Int):disiG G (.int i) ["bool"]=Ja Jd:=rfl
theorem Bk(i:Bool):disiG G (.bool i) ["bool"]=Ja Jc:=rfl
theorem lG(l:List D):disiG G (.list l) ["list"]=Ja Jc:=rfl
theorem A1(l:List D):disiG G (.list l) ["tuple"]=Ja Jd:=rfl
theorem mi(l:List D):disiG G (.tup l) ["tuple"]=Ja Jc:=rfl
theorem Ba(i:Bool):disiG G (.bool i) ["int"]=Ja Jc:=rfl
end
theorem kD{p:Prop}[Decidable p]{a b:Prop}(N:p->b)(Y:¬p->a):cond (!decide p) a b:=by
 by_cases h:p
 ·rw[Ud h];exact N h
 ·rw[Ue h];exact Y h
theorem iF{a b:Prop}(h:c=Jc->a)(p:c=Jd->b):cond c a b:=by
 induction c with
 |true=>exact h rfl
 |false=>exact p rfl
theorem jn{a b:Prop}(h:c=Jc->b)(p:c=Jd->a):cond (!c) a b:=by
 induction c with
 |true=>exact h rfl
 |false=>exact p rfl
theorem kH{G:Gx}{args:List E}(h:G.full=Jc/\G.calm=Jc/\(G.mks.contains c=Jc\/(G.inis.contains c=Jc/\args.length=(G.flds c).length)))
  (w:dwes G cl args Δ (λvs=>tjs vs=Jb/\X c ((fsts vs).take (G.flds c).length) Δ) λc l=>X c l Δ):dwss G cl cu (.raise c args::r) Δ Q X:=⟨h,w⟩
section
variable{Q:DQ}{t ta tb:Tag}{Δ:DRho}
theorem aK(K:D×Bool->Prop)(v:D×Bool):dOE K (Ja v)=K v:=rfl
theorem cm(K:D->Prop)(v:D):dOD K (Ja v)=K v:=rfl
theorem bT(K:DRho->Prop)(v:DRho):dOR K (Ja v)=K v:=rfl
theorem cE(K:Nat->Prop)(v:Nat):oNat K (Ja v)=K v:=rfl
theorem AX(K:List Int->Prop)(v:List Int):oIs K (Ja v)=K v:=rfl
theorem il(K:Bool->Prop)(v:Bool):oB K (Ja v)=K v:=rfl
theorem wW(K:Int->Prop)(x:Int):dInt K (.int x)=K x:=rfl
theorem br(K:Bool->Prop)(x:Bool):dBool K (.bool x)=K x:=rfl
theorem dz(K:List D->Prop)(x:List D):dLst K (.list x)=K x:=rfl
theorem c4(K:List D->Prop)(x:List D):dSeq K (.list x)=K x:=rfl
theorem b5(K:D->Tag->Prop)(d:D)(t:Tag):d1 K [(d,t)]=K d t:=rfl
theorem bS(args:List (D×Tag)):dbi .len args Q=d1 (λd o0=>oNat (λn=>Q (.int n) Jb) (dlen d)) args:=rfl
theorem j8(args:List (D×Tag)):dbi .all args Q=d1 (λd o0=>dLst (λl=>oBs (λbs=>Q (.bool (bs.all id)) Jb) (gP l)) d) args:=rfl
theorem gz(args:List (D×Tag)):dbi .sum args Q=d1 (λd o0=>dLst (λl=>oIs (λis=>Q (.int is.sum) Jb) (dInts l)) d) args:=rfl
theorem nh(args:List (D×Tag)):dbi .int args Q=d1 (λd o0=>dBool (λx=>Q (.int (if x then 1 else 0)) Jb) d) args:=rfl
theorem g6(args:List (D×Tag)):dbi .list args Q=d1 (λd t=>dList Q t d) args:=rfl
theorem xg(l:List D):dList Q t (.list l)=Q (.list l) (tgl l t):=rfl
theorem AF(ks:List (List KA))(l:List D):dList Q t (.dict ks l)=((ks.length<=lim/\∀k∈ks,k.length<=lim)/\Q (.list (ks.map keyDd)) Jb):=rfl
theorem sy(args:List (D×Tag)):dbi .sorted args Q=d1 (λd o0=>dLst (λl=>oIs (λis=>is.length<64/\∀j:List Int,j.Perm is->j.Pairwise (· <= ·)->Q (.list (j.map .int)) Jb) (dInts l)) d) args:=rfl
theorem iT(a:D)(l:List D)(K:Bool->Prop):din a (.list l) K=((a.okd 40=Jc/\D.okds 40 l=Jc)/\K (l.any λd=>D.eqv d a)):=rfl
theorem uD(a:D)(ks:List (List KA))(l:List D)(K:Bool->Prop):din a (.dict ks l) K=oK (λk=>K (kidx ks k).isSome) (keyD a):=rfl
theorem xx(K:List (List KA)->List D->Prop)(ks:List (List KA))(l:List D):dDct K (.dict ks l)=K ks l:=rfl
theorem nX(K:List KA->Prop)(k:List KA):oK K (Ja k)=K k:=rfl
theorem dg(ks:List (List KA))(l:List D):tg0 (.dict ks l) t=t:=rfl
theorem zJ(c:String)(l:List D):tg0 (.exc c l) t=tgl l t:=rfl
theorem eg(ks:List (List KA))(l:List D):D.atom (.dict ks l)=Jd:=rfl
theorem BV(d:D):dget t Q (Ja d)=Q d (tg0 d t):=rfl
theorem yN(l:List D)(i d:D)(K:D->Prop):dsetI (.list l) i d K=dInt (λk=>oNat (λj=>K (.list (l.set j d))) (place l.length k)) i:=rfl
theorem BQ(ks:List (List KA))(l:List D)(i d:D)(K:D->Prop):dsetI (.dict ks l) i d K=(l.length<lim/\oK (λk=>K (dkset ks l k d)) (keyD i)):=rfl
theorem BN:dget t Q Jb=Q (.list []) Jb:=rfl
theorem rq(args:List (D×Tag)):dbi (.dict ()) args Q=d1 (λd o0=>dDct (λks l=>(ks≠ []/\(∀k∈ks,dB k=Jc)/\D.atoms l=Jc)/\Q (.dict ks l) Jb) d) args:=rfl
theorem lO(l:List D):tg0 (.inst l) t=tgl l t:=rfl
theorem km(l:List D):dIns (.inst l)=True:=rfl
theorem na(args:List (D×Tag)):dbi .min args Q=dMin Q args:=rfl
theorem dX(a b:D)(K:Bool->Prop):dcmp .nin a b K=din a b λr=>K (!r):=rfl
theorem cw(l:List D):dlen (.list l)=Ja l.length:=rfl
theorem mn(l:List D):dlen (.tup l)=Ja l.length:=rfl
theorem ye(l:List Int):dlen (.scr l)=Ja l.length:=rfl
theorem cM(a b:D)(K:Bool->Prop):dcmp .eq a b K=deq a b K:=rfl
theorem d4(a b:D)(K:Bool->Prop):dcmp .ne a b K=deq a b λr=>K (!r):=rfl
theorem iU(a b:D)(K:Bool->Prop):dcmp .in_ a b K=din a b K:=rfl
theorem AZ(i:Int):dglob Q (Ja (.int i))=Q (.int i) Jb:=rfl
theorem cZ(v:D)(K:List D->Prop):dsrc .val [v] K=dSeq K v:=rfl
theorem gy(n:Int)(K:List D->Prop):dsrc .range [.int n] K=((-1000000<n/\n<=1000000)/\K ((Qc n.toNat).map λ(i:Nat)=> .int i)):=rfl
theorem AN(a b:List D)(K:List D->Prop):dsrc .zip [.list a,.list b] K=K ((a.zip b).map λp=> .tup [p.1,p.2]):=rfl
theorem bE:Δ.frz Jb=Δ:=rfl
theorem je(y:String)(b:Bool)(v:D)(r:DRho)(xs:List String):DRho.frz (Nb y b v r) (Ja xs)=No y (cond (hasS xs y) (Ja (v,v.atom&&b)) (Ja (v,b))) (DRho.frz r (Ja xs)):=rfl
theorem jN(y:String)(o:Option (D×Bool))(r:DRho)(xs:List String):DRho.frz (No y o r) (Ja xs)=No y (cond (hasS xs y) (o.map λq=>(q.1,q.1.atom&&q.2)) o) (DRho.frz r (Ja xs)):=rfl
theorem jD(y:String)(b:Bool)(v:D)(r:DRho):No y (Ja (v,b)) r=Nb y b v r:=rfl
theorem jl(xs:List String):DRho.frz [] (Ja xs)=[]:=rfl
theorem bA(i:Int):tg0 (.int i) t=Jb:=rfl
theorem Bg(i:Bool):tg0 (.bool i) t=Jb:=rfl
theorem yU(s:String):tg0 (.str s) t=Jb:=rfl
theorem fN(s:List Int):tg0 (.scr s) t=Jb:=rfl
theorem bw(l:List D):tg0 (.list l) t=t:=rfl
theorem bG(l:List D):tg0 (.tup l) t=tgl l t:=rfl
theorem bl:tj Jb t=t:=rfl
theorem bL(xs:List String):tj (Ja xs) Jb=Ja xs:=rfl
theorem b9(xs ys:List String):tj (Ja xs) (Ja ys)=Ja (xs++ys):=rfl
theorem aW:tjs []=Jb:=rfl
theorem aY(p:D×Tag)(r:List (D×Tag)):tjs (p::r)=tj p.2 (tjs r):=rfl
theorem iS(x y:String)(u v:D)(b:Bool):dW (.tup [x,y]) (.tup [u,v]) b Δ=Ja ((Δ.put x (u,b)).put y (v,b)):=rfl
theorem rY(x y z:String)(u v w:D)(b:Bool):dW (.tup [x,y,z]) (.tup [u,v,w]) b Δ=Ja (((Δ.put x (u,b)).put y (v,b)).put z (w,b)):=rfl
theorem xm(v:D):dMin Q [(v,t)]=dLst (λl=>oIs (λis=>is≠ []/\Q (.int (lmin is)) Jb) (dInts l)) v:=rfl
theorem cr(x:String)(v:D)(b:Bool):dW (.name x) v b Δ=Ja (Δ.put x (v,b)):=rfl
theorem jv(x:String):hasS [] x=Jd:=rfl
theorem jI(y:String)(r:List String)(x:String):hasS (y::r) x=(y==x||hasS r x):=rfl
theorem bH(l:List D):D.atom (.list l)=Jd:=rfl
theorem eG(i:Int):D.atom (.int i)=Jc:=rfl
theorem yP(i:Bool):D.atom (.bool i)=Jc:=rfl
theorem BE(i:List Int):D.atom (.scr i)=Jc:=rfl
theorem vJ(s:String):D.atom (.str s)=Jc:=rfl
theorem gD(l:List D):D.atom (.tup l)=D.atoms l:=rfl
theorem bv:D.atoms []=Jc:=rfl
theorem bu(d:D)(l:List D):D.atoms (d::l)=(d.atom&&D.atoms l):=rfl
theorem get_c(y:String)(v:Option (D×Bool))(r:DRho)(x:String):DRho.get ((y,v)::r) x=cond (y==x) v (DRho.get r x):=rfl
theorem put_c(y:String)(o:Option (D×Bool))(r:DRho)(x:String)(v:D×Bool):DRho.put ((y,o)::r) x v=cond (y==x) ((y,Ja v)::r) ((y,o)::DRho.put r x v):=rfl
theorem aG(y:String)(b:Bool)(v:D)(r:DRho)(x:String):DRho.get (Nb y b v r) x=cond (y==x) (Ja (v,b)) (DRho.get r x):=rfl
theorem aJ(y:String)(o:Option (D×Bool))(r:DRho)(x:String):DRho.get (No y o r) x=cond (y==x) o (DRho.get r x):=rfl
theorem aM(y:String)(b:Bool)(v:D)(r:DRho)(x:String)(p:D×Bool):DRho.put (Nb y b v r) x p=cond (y==x) (Nb y p.2 p.1 r) (Nb y b v (DRho.put r x p)):=rfl
theorem aP(y:String)(o:Option (D×Bool))(r:DRho)(x:String)(p:D×Bool):DRho.put (No y o r) x p=cond (y==x) (Nb y p.2 p.1 r) (No y o (DRho.put r x p)):=rfl
end
def elD(G:Gx)(cl:DCl)(e:E):DRho->DQ->Prop:=λP K=>dwe G cl e P K λo0 o0=>False
def tstD(G:Gx)(cl:DCl)(e:E):DRho->(Bool->Prop)->Prop:=λP K=>dwe G cl e P (λv o0=>dBool K v) λo0 o0=>False
section
variable{G:Gx}{cl cu:DCl}{Δ:DRho}{Q:DQ}{X:DX}
theorem cj{k:IK}(c:k.isZ=Jd\/G.calm=Jc)(h:dwes G cl i Δ (λvs=>dsrc k (fsts vs) λxs=>dcomp tg Δ (tjs vs) (λo0 K=>K Jc) (elD G cl e) xs [] Jb λa t=>Q (.list a) t) X):dwe G cl (.comp e tg k i) Δ Q X:=⟨c,h⟩
theorem cK{k:IK}(C:k.isZ=Jd\/G.calm=Jc)(h:dwes G cl i Δ (λvs=>dsrc k (fsts vs) λxs=>dcomp tg Δ (tjs vs) (tstD G cl c) (elD G cl e) xs [] Jb λa t=>Q (.list a) t) X):dwe G cl (.compIf e tg k i c) Δ Q X:=⟨C,h⟩
variable{QM:D->DRho->Prop}
theorem pj(o a b):dwm G cl (.bin o a b) Δ QM=dwe G cl (.bin o a b) Δ (λd t=>t=Jb/\QM d Δ) λo0 o0=>False:=rfl
theorem nf(a b c d):dwm G cl (.comp a b c d) Δ QM=dwe G cl (.comp a b c d) Δ (λd t=>t=Jb/\QM d Δ) λo0 o0=>False:=rfl
theorem x7(bs:List Bool)(K:Int->Prop):wcnt Jd bs K=K (bs.count Jc:Nat):=rfl
theorem BD(bs:List Bool)(K:Int->Prop):wcnt Jc bs K=((Jc∈bs/\bs.length<=1000)/\K (bs.idxOf Jc:Nat)):=rfl
theorem e9(l):dwm G cl (.tup l) Δ QM=dwms G cl l Δ (λds P=>ds.length<=lim/\QM (.tup ds) P):=rfl
theorem cA(x):dwm G cl (.loc x) Δ QM=dOE (λp=>cond p.1.atom (QM p.1 Δ) (p.2=Jc/\QM p.1 (Δ.put x (.hole,Jc)))) (Δ.get x):=rfl
theorem uL(h:dwe G cl (.call f l) Δ (λd t=>t=Jb/\QM d Δ) λo0 o0=>False):dwm G cl (.call f l) Δ QM:=h
theorem eX{Q:List D->DRho->Prop}:dwms G cl [] Δ Q=Q [] Δ:=rfl
theorem dJ{Q:List D->DRho->Prop}(e es):dwms G cl (e::es) Δ Q=dwm G cl e Δ (λd i=>dwms G cl es i (λds J=>Q (d::ds) J)):=rfl
theorem jj{Q:bY}{X:DSX}{r:List S}{x:String}{e:E}(h:dOE (λp=>dLst (λo0=>True) p.1) (Δ.get x)/\dwm G cl e Δ (λd i=>dOE (λp=>p.2=Jc/\dLst (λl=>l.length<lim/\dwss G cl cu r (i.put x (.list (l++[d]),Jc)) Q X) p.1) (i.get x))):
  dwss G cl cu (.expr (.meth (.loc x) .append [e])::r) Δ Q X:=h
end
theorem gx(n:Nat):((n:Int)).toNat=n:=rfl
theorem dY{body:DRho->bY->Prop}(I:Nat->DRho->Prop)(U:I 0 Δ)(h:∀ (j:Nat) (Δ:DRho),j<n->I j Δ->∀K:bY,(∀P,I (j+1) P->K .next P)->dOR (λP=>body P K) (dW tg (.int j) Jc Δ))
  (q:∀P,I n P->Q .next P):fH tg body Q ((Qc n).map λ(i:Nat)=> .int i) Δ:=
 dK (λ(i:Nat)=> .int i) I _ _ U (λj a Δ e H K k=>by
  obtain⟨N,p⟩:=QI.mp e;rw[Qt] at N;rw[Wa] at p;subst p;exact h j Δ N H K k) (by rw[Qt];exact q)
theorem cH{el:DRho->DQ->Prop}{K:List D->Tag->Prop}(f:Nat->D)(U:∀i,i<n->∀K:DQ,K (f i) Jb->dOR (λP=>el P K) (bI tg (.int i) Δ))(k:K ((Qc n).map f) Jb):
  dcomp tg Δ ts (λo0 K=>K Jc) el ((Qc n).map λ(i:Nat)=> .int i) [] Jb K:=
 j3 (λ(i:Nat)=> .int i) f (· <n) U _ [] (λa h=>Qg.mp h) k
theorem bR{L:Type}{l:List L}{el:DRho->DQ->Prop}{K:List D->Tag->Prop}(g f:L->D)(U:∀a,a∈l->∀K:DQ,K (f a) Jb->dOR (λP=>el P K) (bI tg (g a) Δ))(k:K (l.map f) Jb):
  dcomp tg Δ ts (λo0 K=>K Jc) el (l.map g) [] Jb K:=j3 g f (· ∈l) U l [] (λa h=>h) k
theorem kR{L u:Type}(f:L->u)(l:List L)(a:L):l.map f++[f a]=(l++[a]).map f:=by rw[QF];rfl
theorem gR{L:Type}(f:Nat->L)(n:Nat):(Qc n).map f++[f n]=(Qc (n+1)).map f:=by rw[List.range_succ,QF];rfl
theorem cS(a b c:D):dsub (.tup [a,b,c]) (.int 0)=Ja a:=rfl
theorem gn(a b c:D):dsub (.tup [a,b,c]) (.int 1)=Ja b:=rfl
theorem gm(a b c:D):dsub (.tup [a,b,c]) (.int 2)=Ja c:=rfl
theorem e8(a b:D):dsub (.tup [a,b]) (.int 0)=Ja a:=rfl
theorem fP(a b:D):dsub (.tup [a,b]) (.int 1)=Ja b:=rfl
theorem aZ{K:D->Prop}(e:t=Ja v)(k:K v):dOD K t:=by subst e;exact k
theorem gH{K:List Int->Prop}(e:t=Ja v)(k:K v):oIs K t:=by subst e;exact k
theorem jF{K:List Bool->Prop}(e:t=Ja v)(k:K v):oBs K t:=by subst e;exact k
noncomputable def dP(p:Nat×Nat):D:= .tup [.int p.1,.int p.2]
noncomputable abbrev dI(l:List Int):D:= .list (l.map .int)
abbrev dT(t:List (List Int)):D:= .list (t.map dI)
noncomputable def dO:Option Int->D
 |some i=> .int i
 |none=> .none
abbrev dR(r:List (Option Int)):D:= .list (r.map dO)
abbrev dC(c:List (List (Option Int))):D:= .list (c.map dR)
theorem wS(t:List (List Int))(r:List Int):dT (t++[r])= .list (t.map dI++[dI r]):=by
 show D.list ((t++[r]).map dI)=_;rw[QF];rfl
theorem rk(l:List Int)(i:Int):dI (l++[i])= .list (l.map .int++[.int i]):=by
 show D.list (KM _<|_++_)=_;rw[QF];rfl
theorem eV(l:List Int):dInts (l.map .int)=Ja l:=by
 induction l with
 |nil=>rfl
 |cons a l i=>show(dInts<|l.map .int).map (a:: ·)=_;rw[i];rfl
theorem eH{L:Type}(g:L->Int)(l:List L):dInts (l.map λa=> .int (g a))=Ja (l.map g):=by
 rw[show(l.map λa=>D.int<|g a)=(l.map g).map .int from(QB).symm];exact eV _
theorem eD{L:Type}(g:L->Bool)(l:List L):gP (l.map λa=> .bool (g a))=Ja (l.map g):=by
 induction l with
 |nil=>rfl
 |cons a l i=>show(gP (l.map λa=> .bool (g a))).map (g a:: ·)=_;rw[i];rfl
theorem lf{L:Type}(g:L->Bool)(l:List L):(l.map g).all id=l.all g:=by rw[List.all_map];rfl
theorem cJ{L:Type}(f:L->D)(h:∀a,(f a).atom=Jc)(l:List L):D.atoms (l.map f)=Jc:=by
 induction l with
 |nil=>rfl
 |cons a l i=>show((f a).atom&&D.atoms (l.map f))=Jc;rw[h a,i];rfl
theorem zp(m:Nat):D.okds m []=Jc:=rfl
theorem cx{L:Type}(f:L->D)(h:∀a,(f a).okd m=Jc)(l:List L):D.okds m (l.map f)=Jc:=by
 induction l with
 |nil=>exact zp m
 |cons a l i=>show(D.okd m (f a)&&D.okds m (l.map f))=Jc;rw[h a,i];rfl
theorem fx(p:Nat×Nat):(dP p).atom=Jc:=rfl
theorem qP(p:Option Int):(dO p).atom=Jc:=by rcases p with⟨⟩<;>rfl
theorem k9(i:Int):(D.int i).atom=Jc:=rfl
structure Rect{α:Type}(t:List (List α))(h w:Nat):Prop where
 len:t.length=h
 row:∀r∈t,r.length=w
 h1:1<=h
 h8:h<=8
 w1:1<=w
 w8:w<=8
noncomputable def rowAt{L:Type}(t:List (List L))(i:Nat):List L:=t[i]?.getD []
def cell(t:List (List Int))(r c:Nat):Int:=(rowAt t r)[c]?.getD 0
theorem Rect.at_{L:Type}{t:List (List L)}(R:Rect t h w)(hi:i<h):t[i]? =Ja (rowAt t i)/\(rowAt t i).length=w:=by
 have:i<t.length:=by rw[R.len];exact hi
 rw[rowAt,Qf this];exact⟨rfl,R.row _<|KQ this⟩
theorem ji{t:List (List Int)}{h w:Nat}(R:Rect t h w){i:Nat}(hi:i<h):dsub (dT t) (.int i)=Ja (dI (rowAt t i)):=ir<|by rw[Qw,(R.at_ hi).1];rfl
theorem oW(R:Rect t h w):dsub (dT t) (.int 0)=Ja (dI (rowAt t 0)):=ji R (i:=0) R.h1
theorem Rect.len0{t:List (List Int)}{h w:Nat}(R:Rect t h w):((rowAt t 0).map D.int).length=w:=by rw[Qd];exact(R.at_ R.h1).2
theorem Rect.lenD{t:List (List Int)}(R:Rect t h w):(t.map dI).length=h:=by rw[Qd];exact R.len
theorem kU{t:List (List Int)}{h w:Nat}(R:Rect t h w){i c:Nat}(hi:i<h)(C:c<w):dsub (dI (rowAt t i)) (.int c)=Ja (.int (cell t i c)):=by
 rw[fM (by exact QU _) (by rw[(R.at_ hi).2];exact QZ.mpr C)];rfl
theorem eE{r:List Int}(h:c<r.length):dsub (dI r) (.int c)=Ja (.int (r[c]?.getD 0)):=by
 rw[fM (by exact QU _) (by exact QZ.mpr h)];rfl
theorem eZ(h:k<=1000):k<=lim:=QD h<|by decide
theorem c9(h:k<1000):k<lim:=QX h<|by decide
noncomputable def allF:Nat->Nat->List (Nat×Nat)
 |0,_=>[]
 |h+1,w=>allF h w++(Qc w).map λc=>(h,c)
theorem nQ(h w:Nat):allF (h+1) w=allF h w++(Qc w).map λc=>(h,c):=rfl
theorem iu(h w:Nat):(allF h w).length=h*w:=by
 induction h with
 |zero=>rw[Nat.zero_mul];rfl
 |succ h i=>rw[nQ,QJ,i,Qd,Qt,Nat.succ_mul]
theorem allF_mem{p:Nat×Nat}:p∈allF h w↔p.1<h/\p.2<w:=by
 induction h with
 |zero=>exact⟨λx=>(bQ x),λx=>absurd x.1 (Wn _)⟩
 |succ h i=>
  rw[nQ,Qr,i,Ql]
  constructor
  ·rintro (⟨a,b⟩|⟨c,C,rfl⟩)
   ·exact⟨by exact KU a,b⟩
   ·exact⟨QW _,Qg.mp C⟩
  ·rintro ⟨a,b⟩;by_cases q:p.1<h
   ·exact .inl ⟨q,b⟩
   ·exact .inr ⟨p.2,Qg.mpr b,by rw[<-show p.1=h by exact Nat.le_antisymm (zs a) (Kd.mp q)]⟩
theorem sZ(h w:Nat):(allF h w).map dP++((Qc w).map λ(c:Nat)=> .tup [.int h,.int c])=(allF (h+1) w).map dP:=by
 rw[nQ,QF,QB];rfl
noncomputable def rsF(t:List (List Int)):List Int:=t.map WU
noncomputable def csF(t:List (List Int))(w:Nat):List Int:=(Qc w).map λc=>(t.map λr=>r[c]?.getD 0).sum
theorem eW{tst:DRho->(Bool->Prop)->Prop}{el:DRho->DQ->Prop}{K:List D->Tag->Prop}(f:Nat->D)(p:Nat->Bool)
  (U:∀i,i<n->dOR (λP=>(∀T:Bool->Prop,T (p i)->tst P T)/\(p i=Jc->∀K:DQ,K (f i) Jb->el P K)) (bI tg (.int i) L))(k:K (((Qc n).filter p).map f) Jb):
  dcomp tg L ts tst el ((Qc n).map λ(i:Nat)=> .int i) [] Jb K:=fi (λ(i:Nat)=> .int i) f p (· <n) U _ [] (λa h=>Qg.mp h) k
theorem cN{L:Type}{l:List L}{tst:DRho->(Bool->Prop)->Prop}{el:DRho->DQ->Prop}{K:List D->Tag->Prop}(g f:L->D)(p:L->Bool)
  (U:∀a,a∈l->dOR (λP=>(∀T:Bool->Prop,T (p a)->tst P T)/\(p a=Jc->∀K:DQ,K (f a) Jb->el P K)) (bI tg (g a) j))(k:K ((l.filter p).map f) Jb):
  dcomp tg j ts tst el (l.map g) [] Jb K:=fi g f p (· ∈l) U _ [] (λa h=>h) k
noncomputable abbrev dL(l:List (List D)):D:= .list (l.map .list)
theorem AS(t:List (List (Option Int))):dC t=dL (t.map λr=>r.map dO):=by
 show D.list _=D.list (KM _<|KM _ _);rw[QB];rfl
def gridF(l:List (List D)):Bool:=decide (1<=l.length/\l.length<=8)&&(decide (1<=(rowAt l 0).length/\(rowAt l 0).length<=8)&&l.all λr=>decide (r.length=(rowAt l 0).length))
theorem Rect.grid{L:Type}{t:List (List L)}{h w:Nat}(R:Rect t h w)(f:L->D):gridF (t.map λr=>r.map f)=Jc:=by
 have b:rowAt (t.map λr=>r.map f) 0=(rowAt t 0).map f:=by
  rw[rowAt,Qw,(R.at_ R.h1).1];rfl
 have e:(rowAt (t.map λr=>r.map f) 0).length=w:=by rw[b,Qd];exact(R.at_ R.h1).2
 rw[gridF,e,Qd,R.len,Ud ⟨R.h1,R.h8⟩,Ud ⟨R.w1,R.w8⟩,Wg,Wg,Qy];intro r n;obtain⟨y,H,rfl⟩:=Ql.mp n;rw[Qd,R.row y H];exact Ud rfl
def hidF(ps:List (Nat×Nat))(r c:Nat):Bool:=(ps.map dP).any λd=>D.eqv d<|dP (r,c)
def cellO(t:List (List Int))(h:Nat->Nat->Bool)(r c:Nat):Option Int:=cond (h r c) Jb<|Ja (cell t r c)
def cellsF(t:List (List Int))(i:Nat->Nat->Bool)(h w:Nat):List (List (Option Int)):=(Qc h).map λr=>(Qc w).map λc=>cellO t i r c
theorem qh(t:List (List Int))(h:Nat->Nat->Bool)(w j:Nat):dC (cellsF t h (j+1) w)= .list ((cellsF t h j w).map dR++[.list ((Qc w).map λ(c:Nat)=>dO (cellO t h j c))]):=by
 rw[show cellsF t h (j+1) w=cellsF t h j w++[(Qc w).map λc=>cellO t h j c] from(gR _ _).symm];show D.list (KM dR<|_++_)=_;rw[QF];show D.list (_++[D.list (KM _<|KM _ _)])=_;rw[QB];rfl
abbrev viewF(t:List (List Int))(i:Nat->Nat->Bool)(h w:Nat):D:= .tup [dC (cellsF t i h w),dI<|rsF t,dI (csF t w)]
theorem mB{L:Type}(g:L->Option Int)(l:List L):dInts ((l.filter λa=>(g a).isSome).map λa=>dO (g a))=Ja (l.filterMap g):=by
 induction l with
 |nil=>rfl
 |cons a l W=>
  induction h:g a with
  |none=>rw[Ku (by rw[h];exact QC),W,List.filterMap_cons_none h]
  |some i=>
   rw[Kt (by rw[h];rfl),Qo,List.filterMap_cons_some h,h];show(dInts _).map (i:: ·)=_;rw[W];rfl
theorem mM{r:List (Option Int)}(h:c<r.length):dsub (dR r) (.int c)=Ja (dO (r[c]?.getD Jb)):=ir<|by rw[Qw,Qf h];rfl
theorem gA{t:List (List (Option Int))}{h w:Nat}(R:Rect t h w){i:Nat}(hi:i<h):dsub (dC t) (.int i)=Ja (dR (rowAt t i)):=ir<|by rw[Qw,(R.at_ hi).1];rfl
theorem lX(R:Rect t h w):dsub (dC t) (.int 0)=Ja (dR (rowAt t 0)):=gA R (i:=0) R.h1
def r1F(c:List (List (Option Int)))(r:List Int)(k:Nat):Int:=r[k]?.getD 0-((rowAt c k).filterMap id).sum
noncomputable def r2F(c:List (List (Option Int)))(s:List Int)(k:Nat):Int:=s[k]?.getD 0-(c.filterMap λr=>r[k]?.getD Jb).sum
theorem eB(o:Option Int):i4 (dO o)=Jd/\(dO o).isNone= !o.isSome:=by rcases o with⟨⟩<;>exact⟨rfl,rfl⟩
theorem lU{p:Prop}[Decidable p]{a b:Prop}(Y:¬p->a)(h:p->b):cond (!decide p) a b:=kD h Y
theorem fS{args:List E}(h:dwe G M (.call f args) L (λo0 o0=>dwss G M u r L Q X) λc l=>X c l L):dwss G M u (.expr (.call f args)::r) L Q X:= .inr h
theorem lv{args:List E}(h:dio G c f L (λP=>dwss G c u r P Q X) (spl L args)):dwss G c u (.expr (.call f args)::r) L Q X:= .inl h
theorem Aa(a:List (List Int))(b:List (List (Option Int))):((a.map dI).zip (b.map dR)).map (λp=>D.tup [p.1,p.2])=(a.zip b).map λp=> .tup [dI p.1,dR p.2]:=by
 rw[List.zip_map,QB];rfl
theorem Ae(a:List Int)(b:List (Option Int)):((a.map D.int).zip (b.map dO)).map (λp=>D.tup [p.1,p.2])=(a.zip b).map λp=> .tup [.int p.1,dO p.2]:=by
 rw[List.zip_map,QB];rfl
def D.eqvs(a b:List D):Bool:=PyData.eqvAll (D.pys a)<|D.pys b
theorem td(a b:List D):D.eqv (.list a) (.list b)=D.eqvs a b:=rfl
theorem xz(a b:List D):D.eqv (.tup a) (.tup b)=D.eqvs a b:=rfl
theorem iC(x y:D)(a b:List D):D.eqvs (x::a) (y::b)=(D.eqv x y&&D.eqvs a b):=rfl
theorem pK:D.eqvs [] []=Jc:=rfl
theorem vV(x:D)(a:List D):D.eqvs [] (x::a)=Jd:=rfl
theorem wf(x:D)(a:List D):D.eqvs (x::a) []=Jd:=rfl
theorem og{L:Type}[DecidableEq L](f:L->D)(h:∀a b,D.eqv (f a) (f b)=decide (a=b)):∀a b:List L,D.eqvs (a.map f) (b.map f)=decide (a=b)
 |[],[]=>by rw[Wm,pK,Ud rfl]
 |[],y::b=>by rw[Wm,Qo,vV,Ue (by simp)]
 |x::a,[]=>by rw[Wm,Qo,wf,Ue (by simp)]
 |x::a,y::b=>by
  rw[Qo,Qo,iC,h,og f h a b];by_cases e:x=y
  ·by_cases w:a=b
   ·simp[e,w]
   ·simp[e,w]
  ·simp[e]
theorem yh(a b:List Int):D.eqv (dI a) (dI b)=decide (a=b):=by rw[dI,dI,td];exact og D.int bX a b
theorem Bq(a b c d:D):D.eqv (.tup [a,b]) (.tup [c,d])=(D.eqv a c&&D.eqv b d):=by rw[xz,iC,iC,pK,WA]
mutual
theorem ci:∀d:D,D.eqv d d=Jc
 | .none=>rfl
 | .bool b=>by rw[uN];exact beq_self_eq_true b
 | .int i=>by rw[bX];exact Ud rfl
 | .str s=>by show(Qb s==Qb s)=Jc;exact beq_self_eq_true _
 | .tup l=>jO l
 | .list l=>jO l
 | .scr _=>rfl
 | .hole=>rfl
 | .exc _ _=>rfl
 | .inst _=>rfl
 | .dict _ _=>rfl
theorem jO:∀l:List D,D.eqvs l l=Jc
 |[]=>rfl
 |d::l=>by rw[iC,ci d,jO l];rfl
end
theorem eO(m:Nat)(i:Int):D.okd m (.int i)=Jc:=by rcases m with⟨⟩<;>rfl
theorem yy(m:Nat)(i:Option Int):D.okd m (dO i)=Jc:=by rcases i with⟨⟩<;>rcases m with⟨⟩<;>rfl
theorem eh(m:Nat)(l:List D):D.okd (m+1) (.list l)=D.okds m l:=rfl
theorem mH(m:Nat)(l:List D):D.okd (m+1) (.tup l)=D.okds m l:=rfl
theorem l8(m:Nat)(l:List Int):D.okd (m+1) (dI l)=Jc:=by rw[eh];exact cx _ (eO m) l
theorem Bn(m:Nat)(l:List (Option Int)):D.okd (m+1) (dR l)=Jc:=by rw[eh];exact cx _ (yy m) l
theorem Bh(m:Nat)(l:List (List (Option Int))):D.okd (m+2) (dC l)=Jc:=by rw[eh];exact cx _ (Bn m) l
theorem d7(m:Nat)(d:D)(l:List D):D.okds m (d::l)=(d.okd m&&D.okds m l):=rfl
theorem lg(m:Nat):D.okds m []=Jc:=rfl
theorem mc(c:List (List (Option Int)))(r s:List Int):D.okd 40 (.tup [dC c,dI r,dI s])=Jc:=by
 rw[mH,d7,d7,d7,lg,Bh,l8,l8];rfl
theorem qc(R:Rect t h w):(∀r∈t,∀i∈r,0<=i)↔∀a b,a<h->b<w->0<=cell t a b:=by
 constructor
 ·intro N a b T v;have E:=(R.at_ T)
  have m:=QE E.1;refine N _ m _ ?_;rw[cell,Qf (by rw[E.2];exact v)];exact KQ _
 ·intro N r n i V;obtain⟨a,T,rfl⟩:=Wh n;obtain⟨b,v,rfl⟩:=Wh V;have:=N a b (by rw[<-R.len];exact T) (by rw[<-R.row _ n];exact v);rw[cell,rowAt,Qf T] at this;rw[show(Ja t[a]).getD []=t[a] from rfl,Qf v] at this;exact this
section
variable{G:Gx}{cl cu:DCl}{Δ:DRho}{X:DX}{Qp:String->List D->D->Prop}
theorem nM(x):dpath G cl (.loc x) Δ Qp X=dOE (λp=>p.2=Jc/\Qp x [] p.1) (Δ.get x):=rfl
theorem yz(a i):dpath G cl (.sub a i) Δ Qp X=dpath G cl a Δ (λx ps n=>dwe G cl i Δ (λj o0=>isScr n=Jd/\dOD (λd=>Qp x (ps++[j]) d) (dsub n j)) X) X:=rfl
end
theorem pV{a:Int}{b:Nat}(h:1<=b):∃i:Nat,a.fmod b=i/\i<b:=by
 obtain⟨N,p⟩:=fF (a:=a) (b:=b) (by exact QZ.mpr h);exact⟨(a.fmod b).toNat,by exact(WQ N).symm,by exact(Wf N).mpr p⟩
structure EnvD(tab:List Fn)(C:Cx)(G:Gx)(mg mb:Jq->Option Jf):Prop where
 g:GOK C G mg mb
 x:ExcOK C G mg mb
 ok:C.ok
 F:∀t∈tab,X4 λa o fd body=>FnAt C t.f t.ps t.b a o fd body
theorem FnAt.un{C:Cx}{d:Jr}(F:FnAt C f ps s a o d body):FnAt C.un f ps s a o d body:=
 ⟨⟨F.ho,F.hd,F.cd,F.hb,F.clo,F.glb,F.blt,F.bind,F.par,F.nd,F.co,F.gen,F.kind,F.free⟩,F.fv,F.kp,F.mat⟩
theorem EnvD.un{tab:List Fn}{C:Cx}{G:Gx}{mg mb:Jq->Option Jf}(e:EnvD tab C G mg mb):EnvD tab C.un G.un mg mb:=⟨e.g.un,e.x.un,e.ok,λt h=>by obtain⟨a,o,f,b,F⟩:=e.F t h;exact⟨a,o,f,b,F.un⟩⟩
section
variable{tab:List Fn}{C:Cx}{G:Gx}{mg mb:Jq->Option Jf}{n:Nat}
theorem EnvD.runs(e:EnvD tab C G mg mb)(t:Fn)(W:t∈tab):Runs G (aO C n) (aO C.un n) (aO C (n+1)) t.f t.ps t.ls t.b:=λE v Q X h w=>by
 obtain⟨a,o,f,b,F⟩:=e.F t W;exact AH (todoE e.g e.x) (tA e.g e.x) (todoE e.g.un e.x.un) (tA e.g.un e.x.un) e.g F t.ls h w
structure Gen(C:Cx)(n:Nat)(Q:D->Bool->Prop)(X:DX)(cl cu:DCl)(PQ:bY)(PX:DSX):Prop where
 hc:∀ {f as R Y},aR (aO C n) f as R Y->cl f as R Y
 io:∀ {f i as R},(aR<|aO C n).io f i as R->cl.io f i as R
 hu:∀ {f as R Y},aR (aO C.un n) f as R Y->cu f as R Y
 qn:∀ {Δ},Q .none Jc->PQ .next Δ
 qr:∀ {d b Δ},Q d b->PQ (.ret d b) Δ
 qx:∀ {c l Δ},X c l->PX c l Δ
theorem EnvD.fn(e:EnvD tab C G mg mb)(t:Fn)(W:t∈tab){args:List (D×Bool)}{Q:D->Bool->Prop}(h:t.ps.length=args.length)
  (w:∀l c P PX,Gen C n Q X l c P PX->dwss G l c t.b (drho0 t.ps t.ls args) P PX):aR (aO C<|n+1) t.f args Q X:=yE h (w _ _ _ _ ⟨id,id,id,id,id,id⟩)<|e.runs t W
theorem EnvD.fnI(e:EnvD tab C G mg mb)(t:Fn)(W:t∈tab){args:List (D×Bool)}{Q:D->Prop}{x:String}{i:Nat}(h:t.ps.length=args.length)(o:t.ps.Nodup)(hx:t.ps[i]? =Ja x)(a:S.noass x t.b=Jc)
  (w:dwss G (aR<|aO C n) (aR<|aO C.un n) t.b (drho0 t.ps t.ls args) (dendI x Q) λo0 o0 o0=>False):(aR<|aO C (n+1)).io t.f i args Q:=vY h o hx a w<|e.runs t W
end
section
variable{C:Cx}{G:Gx}{mg mb:Jq->Option Jf}{n:Nat}
theorem sx{c:Cls}(h:initM c sc b=Jc):X2 λy f=>A3 (b=[y,f]) (mAsg sc c.f1 c.e1 y=Jc) (mAsg sc c.f2 c.e2 f=Jc):=by
 rcases b with o0|⟨y,o0|⟨f,o0|⟨o0,o0⟩⟩⟩<;>first|exact ft h|exact⟨y,f,rfl,(Qh.mp h).1,(Qh.mp h).2⟩
theorem wq(g:GOK C G mg mb)(T:Todo C G n){c:Cls}(K:ClsC C c)(Y:c.e1= .loc c.a1)(j:"self"≠c.a1){d:D}{Q:D->Bool->Prop}
  (w:dwe G (aR<|aO C n) c.e2 [("self",Jb),(c.a1,Ja (d,Jd))] (λB A=>A=Jb/\Q (.inst [d,B]) Jc) λo0 o0=>False):aR (aO C<|n+2) "Bounds" [(d,Jc)] Q X:=by
 intro t vs Fs Q' X' i k kx;cases i with
 |@cons _ _ v F _ ac ab r nd _ i=>
 cases i;obtain⟨a,J,fv,S,fl,o0⟩:=K;obtain⟨fI,N,F0,o0,o0,o0,o0,o0,ne⟩:=S;obtain⟨oI,fd,p,Fn,f,hm⟩:=F0;obtain⟨y1,y2,rfl,l,L⟩:=sx hm;refine yJ g J fv N.kp N Fn f l L fl ne (bP T g c.e1) (bP T g c.e2) [] λx hx=> ?_;have u:(rho0 ["self",c.a1] [] [.ref x,v]).get c.a1=Ja v:=(Ug j).trans (Uh rfl);rw[Y];show oV _ ((rho0 ["self",c.a1] [] [.ref x,v]).get c.a1);rw[u];have ee:EnvE t [("self",Jb),(c.a1,Ja (d,Jd))] (rho0 ["self",c.a1] [] [.ref x,v]) (λy=>if y=c.a1 then F else []):=by
  refine⟨λy d' b e=> ?_,λy a H=> ?_,rfl⟩
  ·by_cases q:y=c.a1
   ·subst q;have e1:DRho.get [("self",Jb),(c.a1,Ja (d,Jd))] c.a1=Ja (d,Jd):=by
     rw[get_c,beq_eq_false_iff_ne.mpr j,get_c,beq_self_eq_true];rfl
    obtain⟨rfl,rfl⟩:=Prod.mk.inj<|sj (e1.symm.trans e);exact⟨v,u,by rw[Uh rfl];exact r⟩
   ·rw[get_c,get_c,beq_eq_false_iff_ne.mpr (Ne.symm q)] at e;by_cases z:("self"==y)=Jc
    ·rw[z] at e;exact ns e
    ·rw[Bool.eq_false_iff.mpr z] at e;exact ns e
  ·by_cases q:y=c.a1
   ·rw[Uh q] at H;exact r.dom a H
   ·rw[Ug q] at H;cases H
 refine bj c.e2 _ _ _ t _ (λo0 o0=>False) _ _ ee w (λB A R O P I W=> ?_) λo0 o0 o0 o0 o0 h o0=>h.elim;intro U E h1 h2 Z;obtain⟨rfl,I⟩:=I;have V:Ext O ((O.set U<|.fd "Bounds" [v,R]).set E (.inst U)):=(Ext.set h1 _).trans (Ext.set ((PH.set_ne _ _<|Ne.symm Z).trans h2) _);have M:=W.part.own rfl;have m:∀a∈F,a∈owned [(d,Jc)] [F]:=λa H=>Qj _ H;have s:Ext t ((O.set U<|.fd "Bounds" [v,R]).set E (.inst U)):=W.ext.trans V;refine k (.inst [d,B]) Jc (.ref E) _ (F++P) I ⟨⟨E,U,[v,R],rfl,PH.set_same _ _ _,(PH.set_ne _ _ Z).trans (PH.set_same _ _ _),v,[R],F,P,rfl,rfl,r.ext s,R,[],P,[],rfl,(QO _).symm,W.rd.ext V,rfl,rfl⟩,λa o e o0=>s a o e,λo0=>⟨?_,λa H=> ?_⟩,λa H=> ?_⟩
 ·refine Qv.mpr ⟨nd rfl,M.1,λa H b hb q=> ?_⟩;subst q;obtain⟨o,e⟩:=r.dom a H;exact ns<|(M.2 a hb).symm.trans e
 ·rcases Qr.mp H with H|H
  ·exact .inr<|m a H
  ·exact .inl<|M.2 a H
 ·rcases Qr.mp H with H|H
  ·exact .inr<|Qj _ H
  ·exact .inl<|M.2 a H
end
noncomputable def iA:Fn:=⟨"near_of",["places"],["found","place"],
 [.assign (.name "found") (.dict0),
  .for_ (.name "place") .val [.loc "places"] [.expr (.meth (.sd (.loc "found")<|.tup [.glob "ROW",.sub (.loc "place") (.int 0)]) .append [.tup [.tup [.glob "COLUMN",.sub (.loc "place") (.int 1)],.loc "place"]]),.expr (.meth (.sd (.loc "found")<|.tup [.glob "COLUMN",.sub (.loc "place") (.int 1)]) .append [.tup [.tup [.glob "ROW",.sub (.loc "place") (.int 0)],.loc "place"]])],
  .ret (.loc "found")]⟩
noncomputable def fE:Fn:=⟨"reached",["near","counts","starts","banned"],["came","waiting","start","at","here","other","place"],
 [.assign (.name "came") (.dict0),
  .assign (.name "waiting") (.list []),
  .for_ (.name "start") .val [.loc "starts"] [.setIdx (.loc "came") (.loc "start") (.none),.expr (.meth (.loc "waiting") .append [.loc "start"])],
  .assign (.name "at") (.int 0),
  .while_ (.cmp .lt (.loc "at")<|.bi .len [.loc "waiting"]) [.assign (.name "here") (.sub (.loc "waiting")<|.loc "at"),.assign (.name "at")<|.bin .add (.loc "at") (.int 1),.for_ (.tup ["other","place"]) .val [.get (.loc "near") (.loc "here")] [.if_ (.and_ (.cmp .nin (.loc "other")<|.loc "came")<|.and_ (.cmp .ne (.loc "place")<|.loc "banned") (.or_ (.cmp .eq (.sub (.loc "here")<|.int 0)<|.glob "ROW")<|.cmp (.gt ()) (.sub (.loc "counts")<|.loc "place") (.int 0))) [.setIdx (.loc "came") (.loc "other") (.tup [.loc "here",.loc "place"]),.expr (.meth (.loc "waiting") .append [.loc "other"])] []]],
  .ret (.loc "came")]⟩
noncomputable def jq:Fn:=⟨"way_to",["came","goal"],["raised","lowered","here","ahead","place"],
 [.assign (.name "raised") (.list []),
  .assign (.name "lowered") (.list []),
  .assign (.name "here") (.loc "goal"),
  .while_ (.notNone<|.sub (.loc "came") (.loc "here")) [.assign (.tup ["ahead","place"]) (.sub (.loc "came")<|.loc "here"),.if_ (.cmp .eq (.sub (.loc "here")<|.int 0)<|.glob "COLUMN") [.expr (.meth (.loc "raised") .append [.loc "place"])] [.expr (.meth (.loc "lowered") .append [.loc "place"])],.assign (.name "here") (.loc "ahead")],
  .ret (.tup [.loc "raised",.loc "lowered",.loc "here"])]⟩
noncomputable def nj:Fn:=⟨"move",["counts","raised","lowered","amount"],["place"],
 [.for_ (.name "place") .val [.loc "raised"] [.setIdx (.loc "counts") (.loc "place") (.bin .add (.sub (.loc "counts") (.loc "place")) (.loc "amount"))],
  .for_ (.name "place") .val [.loc "lowered"] [.setIdx (.loc "counts") (.loc "place") (.bin .sub (.sub (.loc "counts") (.loc "place")) (.loc "amount"))]]⟩
noncomputable def fu:Fn:=⟨"numbers_of",["came","kind"],[],
 [.ret (.bi .sorted [.compIf (.loc "number") (.tup ["word","number"]) .val [.bi .list [.loc "came"]] (.cmp .eq (.loc "word") (.loc "kind"))])]⟩
noncomputable def c8:Fn:=⟨"is_count",["thing"],[],
 [.ret (.and_ (.isi (.loc "thing") ["int"]) (.and_ (.not_ (.isi (.loc "thing") ["bool"])) (.cmp .ge (.loc "thing") (.int 0))))]⟩
noncomputable def iP:Fn:=⟨"is_grid",["thing"],[],
 [.if_ (.or_ (.not_ (.isi (.loc "thing") ["list"])) (.not_ (.cmp2 (.int 1) .le (.bi .len [.loc "thing"]) .le (.glob "MOST")))) [.ret (.bool Jd)] [],
  .if_ (.or_ (.not_<|.bi .all [.comp (.isi (.loc "row") ["list"]) (.name "row") .val [.loc "thing"]])<|.not_ (.cmp2 (.int 1) .le (.bi .len [.sub (.loc "thing") (.int 0)]) .le<|.glob "MOST")) [.ret (.bool Jd)] [],
  .ret (.bi .all [.comp (.cmp .eq (.bi .len [.loc "row"]) (.bi .len [.sub (.loc "thing") (.int 0)])) (.name "row") .val [.loc "thing"]])]⟩
noncomputable def cY:Fn:=⟨"need_number",["thing"],[],
 [.if_ (.or_ (.not_ (.call "is_count" [.loc "thing"])) (.cmp .eq (.loc "thing") (.int 0))) [.raise "BadNumber" [.str "no number from 1 on"]] []]⟩
noncomputable def fR:Fn:=⟨"places_of",["grid"],["found","row","column"],
 [.assign (.name "found") (.list []),
  .for_ (.name "row") .range [.bi .len [.loc "grid"]] [.for_ (.name "column") .range [.bi .len [.sub (.loc "grid") (.int 0)]] [.expr (.meth (.loc "found") .append [.tup [.loc "row",.loc "column"]])]],
  .ret (.loc "found")]⟩
noncomputable def gX:Fn:=⟨"rests_of",["view"],["cells","rows","columns","found","others","k"],
 [.assign (.tup ["cells","rows","columns"]) (.loc "view"),
  .assign (.name "found") (.comp (.bin .sub (.sub (.loc "rows")<|.loc "k")<|.bi .sum [.compIf (.loc "count") (.name "count") .val [.sub (.loc "cells") (.loc "k")] (.notNone<|.loc "count")]) (.name "k") .range [.bi .len [.loc "rows"]]),
  .assign (.name "others") (.list []),
  .for_ (.name "k") .range [.bi .len [.loc "columns"]] [.expr (.meth (.loc "others") .append [.bin .sub (.sub (.loc "columns")<|.loc "k") (.bi .sum [.compIf (.sub (.loc "row")<|.loc "k") (.name "row") .val [.loc "cells"] (.notNone<|.sub (.loc "row") (.loc "k"))])])],
  .ret (.tup [.loc "found",.loc "others"])]⟩
noncomputable def gN:Fn:=⟨"are_sums",["thing","many"],[],
 [.ret (.and_ (.isi (.loc "thing") ["list"]) (.and_ (.cmp .eq (.bi .len [.loc "thing"]) (.loc "many")) (.bi .all [.comp (.call "is_count" [.loc "one"]) (.name "one") .val [.loc "thing"]])))]⟩
noncomputable def f_is_view:Fn:=⟨"is_view",["thing"],["row","rows","columns"],
 [.if_ (.or_ (.not_ (.isi (.loc "thing") ["tuple"])) (.or_ (.cmp .ne (.bi .len [.loc "thing"]) (.int 3)) (.not_ (.call "is_grid" [.sub (.loc "thing") (.int 0)])))) [.ret (.bool Jd)] [],
  .for_ (.name "row") .val [.sub (.loc "thing") (.int 0)] [.if_ (.not_<|.bi .all [.comp (.or_ (.isNone<|.loc "count")<|.call "is_count" [.loc "count"]) (.name "count") .val [.loc "row"]]) [.ret (.bool Jd)] []],
  .if_ (.or_ (.not_<|.call "are_sums" [.sub (.loc "thing") (.int 1),.bi .len [.sub (.loc "thing") (.int 0)]])<|.not_ (.call "are_sums" [.sub (.loc "thing") (.int 2),.bi .len [.sub (.sub (.loc "thing")<|.int 0) (.int 0)]])) [.ret (.bool Jd)] [],
  .assign (.tup ["rows","columns"]) (.call "rests_of" [.loc "thing"]),
  .ret (.and_ (.cmp .ge (.bi .min [.loc "rows"]) (.int 0)) (.and_ (.cmp .ge (.bi .min [.loc "columns"]) (.int 0)) (.cmp .eq (.bi .sum [.loc "rows"]) (.bi .sum [.loc "columns"]))))]⟩
noncomputable def ec:Fn:=⟨"need_view",["thing"],[],
 [.if_ (.not_ (.call "is_view" [.loc "thing"])) [.raise "BadView" [.str "no view"]] []]⟩
noncomputable def g8:Fn:=⟨"is_place",["thing","grid"],[],
 [.if_ (.or_ (.not_ (.isi (.loc "thing") ["tuple"])) (.or_ (.cmp .ne (.bi .len [.loc "thing"]) (.int 2)) (.or_ (.not_ (.call "is_count" [.sub (.loc "thing") (.int 0)])) (.not_ (.call "is_count" [.sub (.loc "thing") (.int 1)]))))) [.ret (.bool Jd)] [],
  .ret (.and_ (.cmp .lt (.sub (.loc "thing") (.int 0)) (.bi .len [.loc "grid"])) (.cmp .lt (.sub (.loc "thing") (.int 1)) (.bi .len [.sub (.loc "grid") (.int 0)])))]⟩
noncomputable def gc:Fn:=⟨"hidden_in",["cells"],[],
 [.ret (.compIf (.loc "place") (.name "place") .val [.call "places_of" [.loc "cells"]] (.isNone (.sub (.sub (.loc "cells") (.sub (.loc "place") (.int 0))) (.sub (.loc "place") (.int 1)))))]⟩
noncomputable def fX:Fn:=⟨"counts_of",["view"],["places","near","counts","place","rows","columns","came","goals","raised","lowered","start","amount"],
 [.assign (.name "places") (.call "hidden_in" [.sub (.loc "view") (.int 0)]),
  .assign (.name "near") (.call "near_of" [.loc "places"]),
  .assign (.name "counts") (.dict0),
  .for_ (.name "place") .val [.loc "places"] [.setIdx (.loc "counts") (.loc "place") (.int 0)],
  .assign (.tup ["rows","columns"]) (.call "rests_of" [.loc "view"]),
  .while_ (.cmp (.gt ()) (.bi .sum [.loc "rows"])<|.int 0) [.assign (.name "came") (.call "reached" [.loc "near",.loc "counts",.compIf (.tup [.glob "ROW",.loc "k"]) (.name "k") .range [.bi .len [.loc "rows"]] (.cmp (.gt ()) (.sub (.loc "rows")<|.loc "k")<|.int 0),.none]),.assign (.name "goals")<|.compIf (.loc "k") (.name "k") .val [.call "numbers_of" [.loc "came",.glob "COLUMN"]] (.cmp (.gt ()) (.sub (.loc "columns")<|.loc "k")<|.int 0),.if_ (.cmp .eq (.loc "goals")<|.list []) [.raise "NoTable" [.call "numbers_of" [.loc "came",.glob "ROW"],.call "numbers_of" [.loc "came",.glob "COLUMN"]]] [],.assign (.tup ["raised","lowered","start"])<|.call "way_to" [.loc "came",.tup [.glob "COLUMN",.sub (.loc "goals") (.int 0)]],.assign (.name "amount")<|.bi .min [.bin .add (.list [.sub (.loc "rows") (.sub (.loc "start")<|.int 1),.sub (.loc "columns") (.sub (.loc "goals")<|.int 0)]) (.comp (.sub (.loc "counts")<|.loc "place") (.name "place") .val [.loc "lowered"])],.expr<|.call "move" [.loc "counts",.loc "raised",.loc "lowered",.loc "amount"],.setIdx (.loc "rows") (.sub (.loc "start")<|.int 1)<|.bin .sub (.sub (.loc "rows")<|.sub (.loc "start") (.int 1)) (.loc "amount"),.setIdx (.loc "columns") (.sub (.loc "goals")<|.int 0) (.bin .sub (.sub (.loc "columns")<|.sub (.loc "goals") (.int 0))<|.loc "amount")],
  .ret (.loc "counts")]⟩
noncomputable def eI:Fn:=⟨"with_counts",["view","counts"],["table","row","column"],
 [.assign (.name "table") (.comp (.bi .list [.loc "row"]) (.name "row") .val [.sub (.loc "view") (.int 0)]),
  .for_ (.tup ["row","column"]) .val [.bi .list [.loc "counts"]] [.setIdx (.sub (.loc "table")<|.loc "row") (.loc "column") (.sub (.loc "counts")<|.tup [.loc "row",.loc "column"])],
  .ret (.loc "table")]⟩
noncomputable def jy:Fn:=⟨"filled",["view"],[],
 [.expr (.call "need_view" [.loc "view"]),
  .ret (.call "with_counts" [.loc "view",.call "counts_of" [.loc "view"]])]⟩
noncomputable def f0:Fn:=⟨"bounds_at",["view","place"],[],
 [.expr (.call "need_view" [.loc "view"]),
  .if_ (.or_ (.not_<|.call "is_place" [.loc "place",.sub (.loc "view") (.int 0)])<|.cmp .nin (.loc "place") (.call "hidden_in" [.sub (.loc "view") (.int 0)])) [.raise "BadPlace" [.str "no hidden place"]] [],
  .ret (.call "Bounds" [.call "counts_of" [.loc "view"]])]⟩
noncomputable def mI:Fn:=⟨"ends",["view","place"],["bounds","low","high"],
 [.assign (.name "bounds") (.call "bounds_at" [.loc "view",.loc "place"]),
  .assign (.name "low") (.sub (.mcall "Bounds.least" (.loc "bounds") [.loc "place",.none])<|.int 0),
  .assign (.name "high") (.sub (.mcall "Bounds.greatest" (.loc "bounds") [.loc "place",.none])<|.int 0),
  .ret (.tup [.call "with_counts" [.loc "view",.loc "low"],.call "with_counts" [.loc "view",.loc "high"]])]⟩
noncomputable def kM:Fn:=⟨"walls",["view","place"],[],
 [.ret (.mcall "Bounds.walls" (.call "bounds_at" [.loc "view",.loc "place"]) [.loc "place",.bi .len [.sub (.loc "view") (.int 1)],.bi .len [.sub (.loc "view") (.int 2)]])]⟩
noncomputable def cF:Fn:=⟨"given_away",["view","width"],["bounds"],
 [.expr (.call "need_view" [.loc "view"]),
  .expr (.call "need_number" [.loc "width"]),
  .assign (.name "bounds") (.call "Bounds" [.call "counts_of" [.loc "view"]]),
  .ret (.compIf (.loc "place") (.name "place") .val [.call "hidden_in" [.sub (.loc "view") (.int 0)]] (.mcall "Bounds.is_given_away" (.loc "bounds") [.loc "place",.loc "width"]))]⟩
noncomputable def f__law_mix:Fn:=⟨"_law_mix",["_law_script","_law_k"],["_law_cell","_law_number"],
 [.assign (.name "_law_cell") (.int 0),
  .if_ (.cmp (.gt ()) (.bi .len [.loc "_law_script"])<|.int 0) [.assign (.name "_law_cell") (.bin .add (.sub (.loc "_law_script")<|.bin .mod (.loc "_law_k") (.bi .len [.loc "_law_script"]))<|.bin .fdiv (.loc "_law_k") (.bi .len [.loc "_law_script"]))] [],
  .assign (.name "_law_number") (.bin .mod (.bin .mul (.bin .add (.loc "_law_cell")<|.bin .mul (.int 7919) (.bin .add (.loc "_law_k")<|.int 1))<|.int 48271)<|.int 2147483647),
  .ret (.bin .mod (.bin .mul (.loc "_law_number") (.loc "_law_number")) (.int 2147483629))]⟩
noncomputable def fj:Fn:=⟨"_law_count",["_law_script","_law_k"],["_law_number","_law_more","_law_some"],
 [.assign (.name "_law_number") (.call "_law_mix" [.loc "_law_script",.loc "_law_k"]),
  .assign (.name "_law_more") (.bin .fdiv (.loc "_law_number")<|.int 8),
  .if_ (.cmp .eq (.bin .mod (.loc "_law_number")<|.int 8)<|.int 0) [.ret (.int 0)] [],
  .assign (.name "_law_some") (.list [.bin .mod (.loc "_law_more") (.int 3),.bin .mod (.loc "_law_more")<|.int 5,.bin .mod (.loc "_law_more")<|.int 12,.sub (.list [.int 0,.int 1,.int 2,.int 40])<|.bin .mod (.loc "_law_more") (.int 4),.bin .mod (.loc "_law_more")<|.int 1000,.bin .add (.bin .mul (.loc "_law_more")<|.bin (.pow ()) (.int 10) (.int 11)) (.bin .mod (.loc "_law_more")<|.int 7)]),
  .ret (.sub (.loc "_law_some") (.bin .mod (.call "_law_mix" [.loc "_law_script",.int 2]) (.int 6)))]⟩
noncomputable def fB:Fn:=⟨"_law_table",["_law_script","_law_high","_law_wide"],["_law_table_here","_law_row"],
 [.assign (.name "_law_table_here") (.list []),
  .for_ (.name "_law_row") .range [.loc "_law_high"] [.expr (.meth (.loc "_law_table_here") .append [.comp (.call "_law_count" [.loc "_law_script",.bin .add (.bin .add (.int 8)<|.bin .mul (.loc "_law_wide") (.loc "_law_row")) (.loc "_law_column")]) (.name "_law_column") .range [.loc "_law_wide"]])],
  .ret (.loc "_law_table_here")]⟩
noncomputable def f9:Fn:=⟨"_law_most",["_law_script"],["_law_number"],
 [.assign (.name "_law_number") (.call "_law_mix" [.loc "_law_script",.int 5]),
  .ret (.bin .add (.int 4) (.bi .int [.cmp .eq (.bin .mod (.loc "_law_number") (.int 9)) (.int 0)]))]⟩
noncomputable def fA:Fn:=⟨"_law_drawn",["_law_script"],["_law_most_here"],
 [.assign (.name "_law_most_here") (.call "_law_most" [.loc "_law_script"]),
  .ret (.call "_law_table" [.loc "_law_script",.bin .add (.int 1) (.bin .mod (.call "_law_mix" [.loc "_law_script",.int 0]) (.loc "_law_most_here")),.bin .add (.int 1) (.bin .mod (.call "_law_mix" [.loc "_law_script",.int 1]) (.loc "_law_most_here"))])]⟩
noncomputable def fb:Fn:=⟨"_law_width",["_law_script"],["_law_number","_law_more"],
 [.assign (.name "_law_number") (.call "_law_mix" [.loc "_law_script",.int 4]),
  .assign (.name "_law_more") (.bin .fdiv (.loc "_law_number")<|.int 8),
  .ret (.bin .add (.int 1) (.sub (.list [.bin .mod (.loc "_law_more") (.int 3),.bin .mod (.loc "_law_more") (.int 3),.bin .mod (.loc "_law_more") (.int 3),.bin .mod (.loc "_law_more") (.int 2),.bin .mod (.loc "_law_more") (.int 5),.bin .mod (.loc "_law_more") (.int 8),.bin .mod (.loc "_law_more") (.int 60),.bin .mod (.loc "_law_more") (.bin (.pow ()) (.int 10) (.int 9))]) (.bin .mod (.loc "_law_number") (.int 8))))]⟩
noncomputable def g7:Fn:=⟨"_law_all",["_law_table_here"],["_law_found","_law_row"],
 [.assign (.name "_law_found") (.list []),
  .for_ (.name "_law_row") .range [.bi .len [.loc "_law_table_here"]] [.assign (.name "_law_found") (.bin .add (.loc "_law_found")<|.comp (.tup [.loc "_law_row",.loc "_law_column"]) (.name "_law_column") .range [.bi .len [.sub (.loc "_law_table_here") (.int 0)]])],
  .ret (.loc "_law_found")]⟩
noncomputable def eP:Fn:=⟨"_law_places",["_law_script","_law_table_here"],["_law_share","_law_some"],
 [.assign (.name "_law_share") (.bin .sub (.bin .mod (.call "_law_mix" [.loc "_law_script",.int 6]) (.int 5)) (.int 1)),
  .assign (.name "_law_some") (.call "_law_all" [.loc "_law_table_here"]),
  .ret (.compIf (.sub (.loc "_law_some") (.loc "_law_k")) (.name "_law_k") .range [.bi .len [.loc "_law_some"]] (.cmp (.gt ()) (.bin .mod (.call "_law_mix" [.loc "_law_script",.bin .add (.int 80) (.loc "_law_k")]) (.int 5)) (.loc "_law_share")))]⟩
noncomputable def cX:Fn:=⟨"_law_column_sums",["_law_table_here"],[],
 [.ret (.comp (.bi .sum [.comp (.sub (.loc "_law_row") (.loc "_law_column")) (.name "_law_row") .val [.loc "_law_table_here"]]) (.name "_law_column") .range [.bi .len [.sub (.loc "_law_table_here") (.int 0)]])]⟩
noncomputable def fZ:Fn:=⟨"_law_view",["_law_table_here","_law_places_here"],["_law_cells","_law_row"],
 [.assign (.name "_law_cells") (.list []),
  .for_ (.name "_law_row") .range [.bi .len [.loc "_law_table_here"]] [.expr (.meth (.loc "_law_cells") .append [.comp (.sub (.list [.sub (.sub (.loc "_law_table_here")<|.loc "_law_row") (.loc "_law_at"),.none])<|.bi .int [.cmp .in_ (.tup [.loc "_law_row",.loc "_law_at"]) (.loc "_law_places_here")]) (.name "_law_at") .range [.bi .len [.sub (.loc "_law_table_here") (.int 0)]]])],
  .ret (.tup [.loc "_law_cells",.comp (.bi .sum [.loc "_law_row"]) (.name "_law_row") .val [.loc "_law_table_here"],.call "_law_column_sums" [.loc "_law_table_here"]])]⟩
noncomputable def fU:Fn:=⟨"_law_copy",["_law_view_here"],[],
 [.ret (.tup [.comp (.bi .list [.loc "_law_row"]) (.name "_law_row") .val [.sub (.loc "_law_view_here") (.int 0)],.bi .list [.sub (.loc "_law_view_here") (.int 1)],.bi .list [.sub (.loc "_law_view_here") (.int 2)]])]⟩
noncomputable def fg:Fn:=⟨"_law_rests",["_law_view_here"],["_law_cells","_law_left","_law_shown"],
 [.assign (.name "_law_cells") (.comp (.comp (.sub (.list [.loc "_law_count_here",.int 0]) (.bi .int [.isNone (.loc "_law_count_here")])) (.name "_law_count_here") .val [.loc "_law_row"]) (.name "_law_row") .val [.sub (.loc "_law_view_here") (.int 0)]),
  .assign (.name "_law_left") (.comp (.bin .sub (.sub (.sub (.loc "_law_view_here")<|.int 1)<|.loc "_law_row")<|.bi .sum [.sub (.loc "_law_cells") (.loc "_law_row")]) (.name "_law_row") .range [.bi .len [.loc "_law_cells"]]),
  .assign (.name "_law_shown") (.call "_law_column_sums" [.loc "_law_cells"]),
  .ret (.tup [.loc "_law_left",.comp (.bin .sub (.sub (.sub (.loc "_law_view_here") (.int 2)) (.loc "_law_column")) (.sub (.loc "_law_shown") (.loc "_law_column"))) (.name "_law_column") .range [.bi .len [.loc "_law_shown"]]])]⟩
noncomputable def fy:Fn:=⟨"_law_whole",["_law_thing"],[],
 [.ret (.and_ (.isi (.loc "_law_thing") ["int"]) (.not_ (.isi (.loc "_law_thing") ["bool"])))]⟩
noncomputable def eA:Fn:=⟨"_law_numbers",["_law_thing","_law_many"],[],
 [.if_ (.or_ (.not_ (.isi (.loc "_law_thing") ["list"])) (.not_ (.bi .all [.comp (.call "_law_whole" [.loc "_law_one"]) (.name "_law_one") .val [.loc "_law_thing"]]))) [.ret (.bool Jd)] [],
  .ret (.cmp .eq (.loc "_law_thing") (.compIf (.loc "_law_number") (.name "_law_number") .range [.loc "_law_many"] (.cmp .in_ (.loc "_law_number") (.loc "_law_thing"))))]⟩
noncomputable def gT:Fn:=⟨"_law_has",["_law_table_here","_law_view_here"],["_law_row","_law_cells","_law_count_here","_law_cell"],
 [.if_ (.or_ (.not_ (.isi (.loc "_law_table_here") ["list"])) (.cmp .ne (.bi .len [.loc "_law_table_here"]) (.bi .len [.sub (.loc "_law_view_here") (.int 0)]))) [.ret (.bool Jd)] [],
  .for_ (.tup ["_law_row","_law_cells"]) .zip [.loc "_law_table_here",.sub (.loc "_law_view_here") (.int 0)] [.if_ (.or_ (.not_<|.isi (.loc "_law_row") ["list"])<|.cmp .ne (.bi .len [.loc "_law_row"]) (.bi .len [.loc "_law_cells"])) [.ret (.bool Jd)] [],.for_ (.tup ["_law_count_here","_law_cell"]) .zip [.loc "_law_row",.loc "_law_cells"] [.if_ (.or_ (.not_<|.call "_law_whole" [.loc "_law_count_here"])<|.or_ (.cmp .lt (.loc "_law_count_here")<|.int 0) (.and_ (.notNone<|.loc "_law_cell")<|.cmp .ne (.loc "_law_cell") (.loc "_law_count_here"))) [.ret (.bool Jd)] []]],
  .ret (.and_ (.cmp .eq (.comp (.bi .sum [.loc "_law_row"]) (.name "_law_row") .val [.loc "_law_table_here"]) (.sub (.loc "_law_view_here") (.int 1))) (.cmp .eq (.call "_law_column_sums" [.loc "_law_table_here"]) (.sub (.loc "_law_view_here") (.int 2))))]⟩
noncomputable def eN:Fn:=⟨"_law_hidden",["_law_view_here"],[],
 [.ret (.compIf (.loc "_law_place") (.name "_law_place") .val [.call "_law_all" [.sub (.loc "_law_view_here") (.int 0)]] (.isNone (.sub (.sub (.sub (.loc "_law_view_here") (.int 0)) (.sub (.loc "_law_place") (.int 0))) (.sub (.loc "_law_place") (.int 1)))))]⟩
noncomputable def gM:Fn:=⟨"_law_gap",["_law_view_here","_law_rows","_law_columns"],["_law_left","_law_below"],
 [.assign (.tup ["_law_left","_law_below"]) (.call "_law_rests" [.loc "_law_view_here"]),
  .ret (.bin .sub (.bi .sum [.comp (.sub (.loc "_law_left") (.loc "_law_row")) (.name "_law_row") .val [.loc "_law_rows"]]) (.bi .sum [.comp (.sub (.loc "_law_below") (.loc "_law_column")) (.name "_law_column") .val [.loc "_law_columns"]]))]⟩
noncomputable def f__law_fence:Fn:=⟨"_law_fence",["_law_view_here","_law_place","_law_shut","_law_high"],["_law_number","_law_rows","_law_columns","_law_row","_law_column"],
 [.if_ (.or_ (.not_ (.isi (.loc "_law_shut") ["tuple"])) (.or_ (.cmp .ne (.bi .len [.loc "_law_shut"]) (.int 3)) (.not_ (.call "_law_whole" [.sub (.loc "_law_shut") (.int 0)])))) [.ret (.bool Jd)] [],
  .assign (.tup ["_law_number","_law_rows","_law_columns"]) (.loc "_law_shut"),
  .if_ (.or_ (.not_<|.call "_law_numbers" [.loc "_law_rows",.bi .len [.sub (.loc "_law_view_here") (.int 1)]])<|.not_ (.call "_law_numbers" [.loc "_law_columns",.bi .len [.sub (.loc "_law_view_here") (.int 2)]])) [.ret (.bool Jd)] [],
  .if_ (.and_ (.not_<|.loc "_law_high")<|.cmp .eq (.loc "_law_shut") (.tup [.int 0,.list [],.list []])) [.ret (.bool Jc)] [],
  .if_ (.or_ (.cmp .nin (.sub (.loc "_law_place")<|.int 0)<|.loc "_law_rows")<|.cmp .in_ (.sub (.loc "_law_place")<|.int 1) (.loc "_law_columns")) [.ret (.bool Jd)] [],
  .for_ (.tup ["_law_row","_law_column"]) .val [.call "_law_hidden" [.loc "_law_view_here"]] [.if_ (.and_ (.loc "_law_high")<|.and_ (.cmp .in_ (.loc "_law_column")<|.loc "_law_columns") (.cmp .nin (.loc "_law_row")<|.loc "_law_rows")) [.ret (.bool Jd)] [],.if_ (.and_ (.not_<|.loc "_law_high")<|.and_ (.cmp .in_ (.loc "_law_row")<|.loc "_law_rows") (.and_ (.cmp .nin (.loc "_law_column")<|.loc "_law_columns")<|.cmp .ne (.tup [.loc "_law_row",.loc "_law_column"]) (.loc "_law_place"))) [.ret (.bool Jd)] []],
  .ret (.cmp .eq (.loc "_law_number") (.call "_law_gap" [.loc "_law_view_here",.loc "_law_rows",.loc "_law_columns"]))]⟩
noncomputable def eJ:Fn:=⟨"_law_shared",["_law_script","_law_k","_law_many","_law_total"],["_law_parts","_law_left","_law_number","_law_part","_law_at"],
 [.assign (.name "_law_parts") (.list []),
  .assign (.name "_law_left") (.loc "_law_total"),
  .for_ (.name "_law_number") .range [.loc "_law_many"] [.assign (.name "_law_part") (.loc "_law_left"),.if_ (.cmp .lt (.loc "_law_number")<|.bin .sub (.loc "_law_many") (.int 1)) [.assign (.name "_law_part") (.bin .mod (.call "_law_mix" [.loc "_law_script",.bin .add (.loc "_law_k") (.loc "_law_number")])<|.bin .add (.loc "_law_left") (.int 1)),.if_ (.cmp .eq (.bin .mod (.bin .fdiv (.call "_law_mix" [.loc "_law_script",.bin .add (.loc "_law_k") (.loc "_law_number")])<|.int 8192)<|.int 3)<|.int 0) [.assign (.name "_law_part") (.sub (.list [.int 0,.loc "_law_left"])<|.bin .mod (.bin .fdiv (.call "_law_mix" [.loc "_law_script",.bin .add (.loc "_law_k") (.loc "_law_number")])<|.int 24576) (.int 2))] []] [],.expr<|.meth (.loc "_law_parts") .append [.loc "_law_part"],.assign (.name "_law_left") (.bin .sub (.loc "_law_left")<|.loc "_law_part")],
  .assign (.name "_law_at") (.bin .mod (.call "_law_mix" [.loc "_law_script",.bin .add (.loc "_law_k") (.loc "_law_many")])<|.loc "_law_many"),
  .ret (.bin .add (.from_ (.loc "_law_parts") (.loc "_law_at")) (.upto (.loc "_law_parts") (.loc "_law_at")))]⟩
noncomputable def dQ:Fn:=⟨"_law_any_view",["_law_script"],["_law_table_here","_law_places_here","_law_view_here","_law_left","_law_below","_law_total","_law_rows","_law_columns"],
 [.assign (.name "_law_table_here") (.call "_law_drawn" [.loc "_law_script"]),
  .assign (.name "_law_places_here") (.call "_law_places" [.loc "_law_script",.loc "_law_table_here"]),
  .assign (.name "_law_view_here") (.call "_law_view" [.loc "_law_table_here",.loc "_law_places_here"]),
  .if_ (.cmp .eq (.bin .mod (.call "_law_mix" [.loc "_law_script",.int 7])<|.int 2)<|.int 0) [.ret (.loc "_law_view_here")] [],
  .assign (.tup ["_law_left","_law_below"]) (.call "_law_rests" [.loc "_law_view_here"]),
  .assign (.name "_law_total") (.sub (.list [.bi .sum [.loc "_law_left"],.bin .add (.int 1)<|.bin .mod (.call "_law_mix" [.loc "_law_script",.int 9]) (.int 9),.bin .add (.int 1) (.bin .mod (.call "_law_mix" [.loc "_law_script",.int 9])<|.bin (.pow ()) (.int 10) (.int 9))])<|.bin .mod (.bin .fdiv (.call "_law_mix" [.loc "_law_script",.int 7])<|.int 2) (.int 3)),
  .assign (.name "_law_rows") (.call "_law_shared" [.loc "_law_script",.int 20,.bi .len [.loc "_law_left"],.loc "_law_total"]),
  .assign (.name "_law_columns") (.call "_law_shared" [.loc "_law_script",.int 40,.bi .len [.loc "_law_below"],.loc "_law_total"]),
  .assign (.name "_law_view_here") (.tup [.sub (.loc "_law_view_here") (.int 0),.comp (.bin .add (.bin .sub (.sub (.sub (.loc "_law_view_here")<|.int 1)<|.loc "_law_row")<|.sub (.loc "_law_left") (.loc "_law_row"))<|.sub (.loc "_law_rows") (.loc "_law_row")) (.name "_law_row") .range [.bi .len [.loc "_law_rows"]],.sub (.loc "_law_view_here") (.int 2)]),
  .ret (.tup [.sub (.loc "_law_view_here") (.int 0),.sub (.loc "_law_view_here") (.int 1),.comp (.bin .add (.bin .sub (.sub (.sub (.loc "_law_view_here") (.int 2)) (.loc "_law_at")) (.sub (.loc "_law_below") (.loc "_law_at"))) (.sub (.loc "_law_columns") (.loc "_law_at"))) (.name "_law_at") .range [.bi .len [.loc "_law_columns"]]])]⟩
noncomputable def c5:Fn:=⟨"_law_shows_none",["_law_view_here","_law_e"],["_law_row","_law_column"],
 [.if_ (.or_ (.not_ (.call "_law_numbers" [.attr "_law_e" "rows",.bi .len [.sub (.loc "_law_view_here") (.int 1)]])) (.not_ (.call "_law_numbers" [.attr "_law_e" "columns",.bi .len [.sub (.loc "_law_view_here") (.int 2)]]))) [.ret (.str "other")] [],
  .for_ (.tup ["_law_row","_law_column"]) .val [.call "_law_hidden" [.loc "_law_view_here"]] [.if_ (.and_ (.cmp .in_ (.loc "_law_row")<|.attr "_law_e" "rows")<|.cmp .nin (.loc "_law_column") (.attr "_law_e" "columns")) [.ret (.str "other")] []],
  .ret (.sub (.list [.str "other",.str "none"]) (.bi .int [.cmp (.gt ()) (.call "_law_gap" [.loc "_law_view_here",.attr "_law_e" "rows",.attr "_law_e" "columns"]) (.int 0)]))]⟩
noncomputable def dj:Fn:=⟨"_law_class",["_law_view_here","_law_e"],["_law_some"],
 [.assign (.name "_law_some") (.list [.isi (.loc "_law_e") ["BadView"],.isi (.loc "_law_e") ["BadNumber"],.isi (.loc "_law_e") ["NoTable"]]),
  .if_ (.or_ (.isi (.loc "_law_e") ["BadPlace","BadTable","NotHidden"])<|.or_ (.cmp .ne (.cnt Jd<|.loc "_law_some")<|.int 1) (.not_<|.isi (.loc "_law_e") ["ValueError"])) [.ret (.str "other")] [],
  .if_ (.sub (.loc "_law_some")<|.int 2) [.ret (.call "_law_shows_none" [.loc "_law_view_here",.loc "_law_e"])] [],
  .ret (.sub (.list [.str "view",.str "number"]) (.cnt Jc (.loc "_law_some")))]⟩
noncomputable def dZ:Fn:=⟨"_law_told",["_law_view_here","_law_width_here"],["_law_e"],
 [.try1 [.ret (.tup [.str "told",.call "given_away" [.loc "_law_view_here",.loc "_law_width_here"]])] "VeilError" "_law_e" [.ret (.tup [.call "_law_class" [.loc "_law_view_here",.loc "_law_e"]])]]⟩
noncomputable def fV:Fn:=⟨"_law_none",["_law_view_here"],[],
 [.try1 [.expr (.call "filled" [.loc "_law_view_here"])] "NoTable" "" [.ret (.bool Jc)],
  .ret (.bool Jd)]⟩
noncomputable def fm:Fn:=⟨"_law_close",["_law_view_here","_law_place","_law_width_here"],["_law_low","_law_high"],
 [.assign (.tup ["_law_low","_law_high"]) (.call "walls" [.loc "_law_view_here",.loc "_law_place"]),
  .if_ (.or_ (.not_<|.call "_law_fence" [.loc "_law_view_here",.loc "_law_place",.loc "_law_low",.bool Jd])<|.not_ (.call "_law_fence" [.loc "_law_view_here",.loc "_law_place",.loc "_law_high",.bool Jc])) [.ret (.bool Jd)] [],
  .ret (.cmp .lt (.bin .sub (.sub (.loc "_law_high") (.int 0)) (.sub (.loc "_law_low") (.int 0))) (.loc "_law_width_here"))]⟩
noncomputable def fk:Fn:=⟨"_law_apart",["_law_view_here","_law_place","_law_width_here"],["_law_one","_law_other"],
 [.assign (.tup ["_law_one","_law_other"]) (.call "ends" [.loc "_law_view_here",.loc "_law_place"]),
  .if_ (.or_ (.not_<|.call "_law_has" [.loc "_law_one",.loc "_law_view_here"])<|.not_ (.call "_law_has" [.loc "_law_other",.loc "_law_view_here"])) [.ret (.bool Jd)] [],
  .ret (.cmp .ge (.bin .sub (.sub (.sub (.loc "_law_other") (.sub (.loc "_law_place") (.int 0))) (.sub (.loc "_law_place") (.int 1))) (.sub (.sub (.loc "_law_one") (.sub (.loc "_law_place") (.int 0))) (.sub (.loc "_law_place") (.int 1)))) (.loc "_law_width_here"))]⟩
noncomputable def eM:Fn:=⟨"_law_listed",["_law_view_here","_law_found","_law_width_here"],["_law_hidden_here","_law_place"],
 [.assign (.name "_law_hidden_here") (.call "_law_hidden" [.loc "_law_view_here"]),
  .if_ (.or_ (.not_<|.isi (.loc "_law_found") ["list"])<|.cmp .ne (.loc "_law_found") (.compIf (.loc "_law_place") (.name "_law_place") .val [.loc "_law_hidden_here"] (.cmp .in_ (.loc "_law_place")<|.loc "_law_found"))) [.ret (.bool Jd)] [],
  .if_ (.not_<|.bi .all [.comp (.isi (.loc "_law_one") ["tuple"]) (.name "_law_one") .val [.loc "_law_found"]]) [.ret (.bool Jd)] [],
  .for_ (.name "_law_place") .val [.loc "_law_hidden_here"] [.if_ (.and_ (.cmp .in_ (.loc "_law_place")<|.loc "_law_found")<|.not_ (.call "_law_close" [.loc "_law_view_here",.loc "_law_place",.loc "_law_width_here"])) [.ret (.bool Jd)] [],.if_ (.and_ (.cmp .nin (.loc "_law_place")<|.loc "_law_found")<|.not_ (.call "_law_apart" [.loc "_law_view_here",.loc "_law_place",.loc "_law_width_here"])) [.ret (.bool Jd)] []],
  .ret (.bool Jc)]⟩
noncomputable def rf:Fn:=⟨"law",["_law_script"],["_law_view_here","_law_handed","_law_width_here","_law_number","_law_bad","_law_found","_law_kept"],
 [.assign (.name "_law_view_here") (.call "_law_any_view" [.loc "_law_script"]),
  .assign (.name "_law_handed") (.call "_law_copy" [.loc "_law_view_here"]),
  .assign (.name "_law_width_here") (.call "_law_width" [.loc "_law_script"]),
  .assign (.name "_law_number") (.call "_law_mix" [.loc "_law_script",.int 72]),
  .if_ (.cmp .eq (.bin .mod (.loc "_law_number")<|.int 8)<|.int 0) [.assign (.name "_law_bad") (.sub (.list [.int 0,.bin .sub (.bin .sub (.int 0)<|.int 1)<|.bin .fdiv (.loc "_law_number") (.int 64),.bool Jc,.bool Jd,.none,.str "1",.list [.int 1],.tup [.int 1]])<|.bin .mod (.bin .fdiv (.loc "_law_number")<|.int 8) (.int 8)),.if_ (.cmp .ne (.call "_law_told" [.sub (.list [.loc "_law_handed",.list []]) (.bin .mod (.bin .fdiv (.loc "_law_number")<|.int 64)<|.int 2),.loc "_law_bad"])<|.sub (.list [.tup [.str "number"],.tup [.str "view"]]) (.bin .mod (.bin .fdiv (.loc "_law_number")<|.int 64)<|.int 2)) [.ret (.bool Jd)] [],.ret (.cmp .eq (.loc "_law_handed")<|.loc "_law_view_here")] [],
  .assign (.name "_law_found") (.call "_law_told" [.loc "_law_handed",.loc "_law_width_here"]),
  .if_ (.cmp .ne (.loc "_law_handed")<|.loc "_law_view_here") [.ret (.bool Jd)] [],
  .if_ (.call "_law_none" [.loc "_law_handed"]) [.ret (.cmp .eq (.loc "_law_found")<|.tup [.str "none"])] [],
  .if_ (.or_ (.cmp .ne (.sub (.loc "_law_found")<|.int 0)<|.str "told")<|.not_ (.call "_law_listed" [.loc "_law_view_here",.sub (.loc "_law_found")<|.int 1,.loc "_law_width_here"])) [.ret (.bool Jd)] [],
  .assign (.name "_law_kept") (.bi .list [.sub (.loc "_law_found") (.int 1)]),
  .expr (.meth (.sub (.call "_law_told" [.loc "_law_handed",.bin .add (.int 1) (.loc "_law_width_here")])<|.int 1) .append [.tup [.int 9,.int 9]]),
  .ret (.and_ (.cmp .eq (.call "_law_told" [.loc "_law_handed",.loc "_law_width_here"]) (.tup [.str "told",.loc "_law_kept"])) (.cmp .eq (.sub (.loc "_law_found") (.int 1)) (.loc "_law_kept")))]⟩
def tab0:List Fn:=[iA,fE,jq,nj,fu,c8,iP,cY,fR,gX,gN,f_is_view,ec,g8,gc,fX,eI,jy,f0,mI,kM,cF,f__law_mix,fj,fB,f9,fA,fb,g7,eP,cX,fZ,fU,fg,fy,eA,gT,eN,gM,f__law_fence,eJ,dQ,c5,dj,dZ,fV,fm,fk,eM,rf]
def tab:List Fn:=[iA,fE,jq,nj,fu,c8,iP,cY,fR,gX,gN,f_is_view,ec,g8,gc,fX,eI,jy,f0,mI,kM,cF,f__law_mix,fj,fB,f9,fA,fb,g7,eP,cX,fZ,fU,fg,fy,eA,gT,eN,gM,f__law_fence,eJ,dQ,c5,dj,dZ,fV,fm,fk,eM,rf,c7,ef,cz,f_Bounds_walls]
abbrev G1:Gx:=gxE [("MOST",.int 8),("ROW",.str "row"),("COLUMN",.str "column")] tab0 kinds7
theorem most:G1.glob "MOST"=Ja (.int 8):=rfl
theorem gY(h:Q (.str "row") Jb):dglob Q (G1.glob "ROW"):=h
theorem gj(h:Q (.str "column") Jb):dglob Q (G1.glob "COLUMN"):=h
abbrev GB(b:Bool):Gx:={G1 with calm:=b}
abbrev Env1(C:Cx)(G:Gx)(m b:Jq->Option Jf):Prop:=EnvD tab C G m b
theorem bo(i:Nat)(h:tab[i]? =Ja t):t∈tab:=QE h
theorem rg{n:Nat}(h:n<=8): -1000000<(n:Int)/\(n:Int)<=1000000:=⟨KB (by decide)<|QU n,Ks.mpr<|QD h (by decide)⟩
section
variable{C:Cx}{mg mb:Jq->Option Jf}{n:Nat}{Q:D->Bool->Prop}{X:DX}
noncomputable def cellF(ns:List Int)(k:Int):Int:=if 0<ns.length then(ns[(k.fmod ns.length).toNat]?.getD 0)+k.fdiv ns.length else 0
def mixF(ns:List Int)(k:Int):Int:=
 let m:=((cellF ns k+7919*(k+1))*48271).fmod 2147483647
 (m*m).fmod 2147483629
theorem dc(e:Env1 C G1 mg mb){ns:List Int}(s:ns.length<=63)(h:Q (.int (mixF ns k)) Jc):aR (aO C (n+1)) "_law_mix" [(.scr ns,b),(.int k,b')] Q X:=by
 refine e.fn f__law_mix (bo 22 rfl) rfl λl u P PX g=> ?_;dsimp only[f__law_mix];dsimp only[aX,b8,bp];refine bt ?_;dsimp only[aN,bE,aF,aM,Qa,aP,aC,aB];refine ca ?_
 (dsimp only[aU,br,aN,bk,bS,ki,aA,aE,b5,aD,aG,Qa,aJ,aC,aB,aK,ye,cE];refine⟨.inr rfl,?_⟩)
 have f:∀c:Int,c=cellF ns k->dwss G1 l u (f__law_mix.b.drop 2) (Nb "_law_script" b (D.scr ns)<|Nb "_law_k" b' (D.int k)<|Nb "_law_cell" Jc (D.int c)<|No "_law_number" Jb<|[]) P PX:=λc Z=>by
  dsimp only[f__law_mix,Yz];refine bt ?_
  (dsimp only[bq,aN,aD,aG,Qa,aJ,aC,aB,aK,bA,cI,nE,cy,bE,aF,aM,aP];refine⟨.inl<|by decide,.inr<|by decide,by decide,?_⟩)
  refine bK ?_;dsimp only[bq,aN,aD,aG,Qa,aB,aC,aK,bA,nE,cy,aF];refine⟨.inl ?_,by decide,?_⟩
  ·have:=fF (a:=(c+7919*(k+1))*48271) (b:=2147483647) (by decide);exact Nat.lt_trans (Int.natAbs_lt_natAbs_of_nonneg_of_lt this.1 this.2)<|by decide
  ·rw[Z];exact g.qr h
 refine cW (λi=> ?_) λi=> ?_
 ·refine bt ?_;have M:=fF (a:=k) (b:=ns.length) i
  (dsimp only[bq,bk,bS,aA,aE,b5,aD,aG,Qa,aJ,aC,aB,aK,ye,cE,bA,fq,aQ,cy,fN];refine⟨.inr rfl,?_⟩)
  refine⟨by exact Yg i,?_⟩;refine aZ (wY M.1 M.2) ?_
  (dsimp only[bA,cI,bE,aF,aM,Qa,aP,aC,aB];refine⟨.inr rfl,?_⟩)
  refine⟨by exact Yg i,by exact zb1 s rfl,f _ ?_⟩;rw[cellF,Uh (by exact QZ.mp i)]
 ·exact f 0<|by rw[cellF,Ug (by exact λq=>i<|QZ.mpr q)]
theorem uA(ns:List Int)(k:Int):0<=mixF ns k/\mixF ns k<2147483629:=fF<|by decide
def ja(ns:List Int)(k:Int):Int:=
 let m:=mixF ns k
 let r:=m.fdiv 8
 if m.fmod 8=0 then 0 else [r.fmod 3,r.fmod 5,r.fmod 12,[0,1,2,40][(r.fmod 4).toNat]?.getD 0,r.fmod 1000,r*10^11+r.fmod 7][((mixF ns 2).fmod 6).toNat]?.getD 0
theorem uW(e:Env1 C G1 mg mb){ns:List Int}(s:ns.length<=63)(h:Q (.int (ja ns k)) Jc):aR (aO C (n+2)) "_law_count" [(.scr ns,b),(.int k,b')] Q X:=by
 refine e.fn fj (bo 23 rfl) rfl λM u P PX g=> ?_;dsimp only[fj];dsimp only[aX,b8,bp];refine bt ?_
 (dsimp only[aL,flags,aA,aH,aY,aE,aI,aW,aD,aG,Qa,aJ,aC,aB,aK,bA,aF,bl,fN,bL];refine⟨rfl,?_⟩)
 refine g.hc<|dc e s ?_;dsimp only[aB,bA,bE,aF,aM,Qa,aP,aC];refine bt ?_
 (dsimp only[bq,aN,aD,aG,Qa,aJ,aC,aB,aK,bA,fq,bE,aF,aM,aP];refine⟨by decide,by decide,?_⟩)
 refine ca ?_
 (dsimp only[aU,br,cM,deq,aN,bq,aD,aG,Qa,aJ,aC,aB,aK,bA,cy,bX];refine⟨by decide,⟨rfl,rfl⟩,?_⟩)
 rw[ja] at h;generalize mixF ns k=m at h ⊢;refine cW (λi=> ?_) λi=> ?_
 ·refine bK ?_;dsimp only[aN,aF];rw[Uh i] at h;exact g.qr h
 ·refine bt ?_
  (dsimp only[bJ,fsts,dnew,aA,aH,aT,aY,aE,aI,aV,aW,bq,aN,aD,aG,Qa,aJ,aC,aB,aK,bA,cy,pZ,nE,cI,bl,aQ];refine⟨by decide,by decide,by decide,by decide,by decide,?_⟩)
  have q:=fF (a:=m.fdiv 8) (b:=4) (by decide);refine aZ (show dsub (.list [.int 0,.int 1,.int 2,.int 40]) (.int<|(m.fdiv 8).fmod 4)=_ from fM (l:=[0,1,2,40]) q.1 q.2) ?_
  (dsimp only[bA,bl,bE,aF,aM,Qa,aP,aB,aC];refine⟨by decide,by decide,by decide,by decide,.inr<|by decide,by decide,by decide,?_⟩)
  refine bK ?_
  (dsimp only[aQ,bq,aN,aL,flags,aA,aH,aY,aE,aI,aW,aF,bl,aD,aG,Qa,aC,aB,aK,fN,bL,bw];refine⟨rfl,?_⟩)
  refine g.hc<|dc e s ?_
  (dsimp only[cy];refine⟨by decide,?_⟩)
  have Z:=fF (a:=mixF ns 2) (b:=6) (by decide);rw[show∀a b c d e f:Int,dsub (.list [.int a,.int b,.int c,.int d,.int e,.int f]) (.int<|(mixF ns 2).fmod 6)=_ from λa b c d e f=>fM (l:=[a,b,c,d,e,f]) Z.1 Z.2];dsimp only[cm,bA,aF];rw[Ug i] at h;exact g.qr h
theorem vF(ns:List Int)(k:Int):0<=ja ns k:=by
 unfold ja;have U:=(uA ns k).1;generalize mixF ns k=m at U ⊢;dsimp only
 split
 ·exact Kc 0
 ·have y:0<=m.fdiv 8:=Int.fdiv_nonneg U (by decide);generalize m.fdiv 8=r at y ⊢;generalize ((mixF ns 2).fmod 6).toNat=j;have h:∀b:Int,0<b->0<=r.fmod b:=λb R=>(fF R).1;have w:0<=([0,1,2,40][(r.fmod 4).toNat]?.getD 0:Int):=by
   generalize (r.fmod 4).toNat=i
   match i with
   |0|1|2|3=>decide
   |_+4=>exact Kc 0
  match j with
  |0=>exact h 3<|by decide
  |1=>exact h 5<|by decide
  |2=>exact h 12<|by decide
  |3=>exact w
  |4=>exact h 1000<|by decide
  |5=>exact Yh (Int.mul_nonneg y<|by decide)<|h 7 (by decide)
  |_+6=>exact Kc 0
end
section
variable{C:Cx}{mg mb:Jq->Option Jf}{n:Nat}{Q:D->Bool->Prop}{X:DX}
def rowF(ns:List Int)(w:Nat)(r:Nat):List Int:=(Qc w).map λ(c:Nat)=>ja ns<|8+(w:Int)*r+c
def tabF(ns:List Int)(h w:Nat):List (List Int):=(Qc h).map (rowF ns w)
theorem ue(ns:List Int)(w j:Nat):dT (tabF ns (j+1) w)= .list ((tabF ns j w).map dI++[.list ((Qc w).map λ(c:Nat)=> .int (ja ns (8+(w:Int)*j+c)))]):=by
 rw[show tabF ns (j+1) w=tabF ns j w++[rowF ns w j] from(gR _ _).symm,wS];show D.list (_++[D.list ((KM _ _).map _)])=_;rw[QB];rfl
theorem sX(e:Env1 C G1 mg mb){ns:List Int}(s:ns.length<=63)(U:h<=8)(d:w<=8)(k:Q (dT (tabF ns h w)) Jc):aR (aO C (n+3)) "_law_table" [(.scr ns,b),(.int h,b'),(.int w,P)] Q X:=by
 refine e.fn fB (bo 24 rfl) rfl λl u N PX g=> ?_;dsimp only[fB];dsimp only[aX,b8,bp];refine bt ?_
 (dsimp only[bJ,fsts,dnew,aE,aI,aV,aW,bE,aF,aM,Qa,aP,aC,aB];refine⟨by decide,?_⟩)
 refine d3 (.inl rfl) ?_;dsimp only[fsts,aA,aH,aY,aE,aI,aW,aD,aG,Qa,aJ,aC,aB,aK,bA,bl,bE,gy,gx];refine⟨⟨by exact zim _,by exact zip' U⟩,?_⟩;refine dY (λi L=>∃v,L=(Nb "_law_script" b (.scr ns)<|Nb "_law_high" b' (.int h)<|Nb "_law_wide" P (.int w)<|Nb "_law_table_here" Jc (dT<|tabF ns i w)<|No "_law_row" v<|[])) ⟨_,rfl⟩ ?_ ?_
 ·rintro j L H ⟨v,rfl⟩ K m;dsimp only[cr,aM,Qa,aP,aB,aC,bT];refine jj ?_
  (dsimp only[aG,Qa,aC,aB,aK,dz,nf,aM];refine⟨trivial,?_⟩)
  refine cj (.inl rfl) ?_;dsimp only[fsts,aA,aH,aY,aE,aI,aW,aD,aG,Qa,aC,aB,aK,bA,bl,gy,gx];refine⟨⟨by exact zim _,by exact zip' d⟩,cH (λc=> .int (ja ns<|8+(w:Int)*j+c)) (λc Z K k=> ?_) ?_⟩
  ·dsimp only[bI,cV,cr,aP,Qa,aM,aC,aB,bT];dsimp only[elD]
   (dsimp only[aL,flags,aA,aH,aY,aE,aI,aW,bq,aD,aJ,Qa,aG,aC,aB,aK,bA,nE,aN,cI,aF,bl,fN,bL];refine⟨rfl,?_⟩)
   refine⟨.inl<|by exact zb1 d rfl,?_⟩;exact g.hc<|uW e s k
  ·refine⟨rfl,rfl,?_,m _ ⟨Ja (.int j,Jc),?_⟩⟩
   ·rw[Qd,tabF,Qd,Qt];unfold lim;exact zll H<|zb2 U rfl
   ·rw[ue];rfl
 ·rintro L ⟨v,rfl⟩;refine df ?_
  (dsimp only[cA,aM,Qa,aP,aC,aB,aG,aJ,aK,bH];refine⟨rfl,?_⟩)
  exact g.qr k
theorem sK{L:Type}{t:List (List L)}(R:Rect t h w)(g:L->D):dsub (.list (t.map λr=> .list (r.map g))) (.int 0)=Ja (.list ((rowAt t 0).map g)):=ir (j:=0) (by rw[Qw,(R.at_ R.h1).1];rfl)
theorem yd(e:Env1 C (GB cb) mg mb){q:Type}{t:List (List q)}(R:Rect t h w)(g:q->D)(k:Q (.list ((allF h w).map dP)) Jc):aR (aO C (n+1)) "_law_all" [(.list (t.map λr=> .list (r.map g)),b)] Q X:=by
 refine e.fn g7 (bo 28 rfl) rfl λl u P PX F=> ?_;dsimp only[g7];dsimp only[aX,b8,bp];have U:=R.h8;have d:=R.w8;have s:h*w<=8*8:=Yi U d;refine bt ?_
 (dsimp only[bJ,fsts,dnew,aE,aI,aV,aW,bE,aF,aM,Qa,aP,aC,aB];refine⟨by decide,?_⟩)
 refine d3 (.inl rfl) ?_
 (dsimp only[fsts,aA,aH,aY,aE,aI,aW,bk,bS,bl,bE,gy,gx,b5,aD,aG,Qa,aJ,aC,aB,aK,cw,cE];refine⟨.inl<|by decide,?_⟩)
 rw[Qd,R.len];refine⟨⟨by exact zim _,by exact zip' U⟩,?_⟩;refine dY (λi L=>∃v c,L=(Nb "_law_table_here" c (.list<|t.map λr=> .list (r.map g))<|Nb "_law_found" Jc (.list<|(allF i w).map dP)<|No "_law_row" v<|[])) ⟨_,_,rfl⟩ ?_ ?_
 ·rintro j L H ⟨v,c,rfl⟩ K m;dsimp only[cr,aM,Qa,aP,aB,aC,bT];refine bt ?_;dsimp only[bq,aD,aG,Qa,aC,aB,aK,bw];refine cj (.inl rfl) ?_
  (dsimp only[fsts,iy,tgl,dnew,aA,aH,aY,aE,aI,aW,bk,bS,bl,gy,gx,b5,aQ,aN,aD,aG,Qa,aC,aB,aK];refine⟨.inl<|by decide,?_⟩)
  refine aZ (sK R g) ?_;dsimp only[cw,cE];rw[Qd,(R.at_ R.h1).2];refine⟨⟨by exact zim _,by exact zip' d⟩,cH (λ(c:Nat)=> .tup [.int j,.int c]) (λc Z K k=> ?_) ?_⟩
  ·dsimp only[bI,cV,cr,aP,Qa,aM,aC,aB,bT];dsimp only[elD]
   (dsimp only[bM,fsts,dtup,aA,aH,aT,aY,aE,aI,aV,aW,aD,aJ,Qa,aG,aC,aB,aK,bA,bl];refine⟨by decide,?_⟩)
   exact k
  ·dsimp only[bL];rw[sZ,cJ _ fx];dsimp only[aB,bE,aF,aM,Qa,aC];refine⟨?_,?_⟩
   ·rw[Qd,iu];refine eZ<|QD (Yi (show j+1<=8 by exact zle H U) d) (by decide)
   ·exact m _ ⟨_,_,rfl⟩
 ·rintro L ⟨v,c,rfl⟩;refine df ?_
  (dsimp only[cA,aM,Qa,aP,aC,aB,aG,aJ,aK,bH];refine⟨rfl,?_⟩)
  exact F.qr k
end
section
variable{C:Cx}{mg mb:Jq->Option Jf}{n:Nat}{Q:D->Bool->Prop}{X:DX}
def placesF(ns:List Int)(h w:Nat):List (Nat×Nat):=((Qc (h*w)).filter λ(k:Nat)=>decide ((mixF ns (80+k)).fmod 5>(mixF ns 6).fmod 5-1)).map λk=>(allF h w)[k]?.getD (0,0)
theorem vm(e:Env1 C G1 mg mb){ns:List Int}(s:ns.length<=63)(R:Rect t h w)(k:Q (.list ((placesF ns h w).map dP)) Jc):aR (aO C (n+2)) "_law_places" [(.scr ns,b),(dT t,b')] Q X:=by
 refine e.fn eP (bo 29 rfl) rfl λl c P PX g=> ?_;dsimp only[eP];dsimp only[aX,b8,bp];have m:h*w<=8*8:=Yi R.h8 R.w8;refine bt ?_
 (dsimp only[bq,aN,aL,flags,aA,aH,aY,aE,aI,aW,aF,bl,aD,aG,Qa,aJ,aC,aB,aK,fN,bL];refine⟨rfl,?_⟩)
 refine g.hc<|dc e s ?_
 (dsimp only[cy,cT,bE,aF,aM,Qa,aP,aC,aB];refine⟨by decide,?_⟩)
 refine bt ?_
 (dsimp only[aL,flags,aA,aH,aY,aE,aI,aW,aD,aG,Qa,aJ,aC,aB,aK,bw,aS,bL,b9,bN];refine⟨rfl,?_⟩)
 refine g.hc<|yd (cb:=Jc) e R D.int ?_;dsimp only[aB,bw,bE,aF,aM,Qa,aP,aC];refine bK ?_;refine cK (.inl rfl) ?_
 (dsimp only[fsts,aA,aH,aY,aE,aI,aW,bk,bS,bl,gy,gx,b5,aD,aG,Qa,aB,aC,aK,cw,cE];refine⟨.inr rfl,?_⟩)
 rw[Qd,iu];refine⟨⟨by exact zim _,by exact zip' m⟩,eW (λk=>dP<|(allF h w)[k]?.getD (0,0)) (λ(k:Nat)=>decide<|(mixF ns<|80+k).fmod 5>(mixF ns 6).fmod 5-1) (λi V=> ?_) ?_⟩
 ·dsimp only[bI,cV,cr,aP,Qa,aM,aC,aB,bT];refine⟨λT Y=> ?_,λo0 K k=> ?_⟩
  ·dsimp only[tstD]
   (dsimp only[aU,br,aD,aJ,Qa,aG,aC,aB,aK,bq,aN,aL,flags,aA,aH,aY,aE,aI,aW,bA,cI,aF,bl,fN,bL];refine⟨rfl,?_⟩)
   refine g.hc<|dc e s ?_
   (dsimp only[cy,ki];refine⟨by decide,?_⟩)
   exact Y
  ·dsimp only[elD];dsimp only[aQ,aD,aJ,Qa,aG,aC,aB,aK,bw];refine aZ (ir (v:=dP<|(allF h w)[i]?.getD (0,0))<|by rw[Qw,Qf (by rw[iu];exact V)];rfl) ?_;exact k
 ·dsimp only[aF];rw[placesF,QB] at k;exact g.qr k
theorem Ax(e:Env1 C (GB cb) mg mb)(R:Rect t h w)(k:Q (dI (csF t w)) Jc):aR (aO C (n+1)) "_law_column_sums" [(dT t,b)] Q X:=by
 refine e.fn cX (bo 30 rfl) rfl λl u P PX g=> ?_;dsimp only[cX];dsimp only[aX,b8,bp];have d:=R.w8;refine bK ?_;refine cj (.inl rfl) ?_
 (dsimp only[fsts,aA,aH,aY,aE,aI,aW,bk,bS,bl,gy,gx,b5,aQ,aN,aD,aG,Qa,aB,aK];refine⟨.inl<|by decide,?_⟩)
 refine aZ (oW R) ?_;dsimp only[cw,cE];rw[R.len0];refine⟨⟨by exact zim _,by exact zip' d⟩,cH (λ(c:Nat)=> .int ((t.map λr=>r[c]?.getD 0).sum)) (λc Z K k=> ?_) ?_⟩
 ·dsimp only[bI,cV,cr,aP,Qa,aM,aC,aB,bT];dsimp only[elD]
  (dsimp only[bk,gz,aA,aE,b5];refine⟨.inl<|by decide,?_⟩)
  refine cj (.inl rfl) ?_;dsimp only[fsts,dz,aA,aH,aY,aE,aI,aW,cZ,aD,aJ,Qa,aG,aB,aC,aK,bw,bL,c4];refine bR dI (λr=> .int (r[c]?.getD 0)) (λr T K k=> ?_) ?_
  ·dsimp only[bI,cV,cr,aP,Qa,aM,aC,aB,bT];dsimp only[elD];dsimp only[aQ,aD,aJ,Qa,aG,aC,aB,aK,bw];refine aZ (eE<|by rw[R.row r T];exact Z) ?_;exact k
  ·refine gH (eH _ _) ?_;exact k
 ·dsimp only[aF];rw[csF,dI,QB] at k;exact g.qr k
theorem AA(e:Env1 C G1 mg mb)(R:Rect t h w){ps:List (Nat×Nat)}(k:Q (viewF t (hidF ps) h w) Jc):aR (aO C (n+2)) "_law_view" [(dT t,b),(.list (ps.map dP),b')] Q X:=by
 refine e.fn fZ (bo 31 rfl) rfl λl u P PX g=> ?_;dsimp only[fZ];dsimp only[aX,b8,bp];have U:=R.h8;have d:=R.w8;refine bt ?_
 (dsimp only[bJ,fsts,dnew,aE,aI,aV,aW,bE,aF,aM,Qa,aP,aC,aB];refine⟨by decide,?_⟩)
 refine d3 (.inl rfl) ?_
 (dsimp only[fsts,aA,aH,aY,aE,aI,aW,bk,bS,bl,bE,gy,gx,b5,aD,aG,Qa,aJ,aC,aB,aK,cw,cE];refine⟨.inr rfl,?_⟩)
 rw[R.lenD];refine⟨⟨by exact zim _,by exact zip' U⟩,?_⟩;refine dY (λi L=>∃v,L=(Nb "_law_table_here" b (dT t)<|Nb "_law_places_here" b' (.list<|ps.map dP)<|Nb "_law_cells" Jc (dC<|cellsF t (hidF ps) i w)<|No "_law_row" v<|[])) ⟨_,rfl⟩ ?_ ?_
 ·rintro j L H ⟨v,rfl⟩ K m;dsimp only[cr,aM,Qa,aP,aB,aC,bT];refine jj ?_
  (dsimp only[aG,Qa,aC,aB,aK,dz,nf,aM];refine⟨trivial,?_⟩)
  refine cj (.inl rfl) ?_
  (dsimp only[fsts,aA,aH,aY,aE,aI,aW,bk,bS,bl,gy,gx,b5,aQ,aN,aD,aG,Qa,aC,aB,aK];refine⟨.inr rfl,?_⟩)
  refine aZ (oW R) ?_;dsimp only[cw,cE];rw[R.len0];refine⟨⟨by exact zim _,by exact zip' d⟩,cH (λ(c:Nat)=>dO<|cellO t (hidF ps) j c) (λc Z K k=> ?_) ?_⟩
  ·dsimp only[bI,cV,cr,aP,Qa,aM,aC,aB,bT];dsimp only[elD];dsimp only[aQ,bk,nh,aA,aE,b5,aU,br,iU,aD,aJ,Qa,aG,aC,aB,aK,bM,fsts,dtup,aH,aT,aI,aV,bJ,dnew,aY,aW,fQ,bl,bw];refine aZ (ji R H) ?_;dsimp only[bw];refine aZ (kU R H Z) ?_
   (dsimp only[bA,bl];refine⟨by decide,.inr rfl,by decide,?_⟩)
   rw[iT];refine⟨⟨rfl,cx dP (λp=>rfl) ps⟩,?_⟩;change K (dO<|cond (hidF ps j c) Jb (Ja<|cell t j c)) Jb at k;change dOD _ (dsub (.list [.int (cell t j c),.none])<|.int (if hidF ps j c=Jc then 1 else 0))
   revert k
   cases hidF ps j c with
   |true=>exact λk=>k
   |false=>exact λk=>k
  ·refine⟨rfl,rfl,?_,m _ ⟨Ja (.int j,Jc),?_⟩⟩
   ·rw[Qd,cellsF,Qd,Qt];exact c9<|by exact zll H<|zb2 U rfl
   ·rw[qh];rfl
 ·rintro L ⟨v,rfl⟩;refine df ?_
  (dsimp only[e9,dJ,aT,eX,aV,nf,cA,aM,Qa,aP,aC,aB,aG,aJ,aK,bH];refine⟨rfl,?_⟩)
  refine cj (.inl rfl) ?_;dsimp only[fsts,aA,aH,aY,aE,aI,aW,cZ,aD,aG,Qa,aJ,aC,aB,aK,bw,bL,c4];refine bR dI (λr=> .int r.sum) (λr T K k=> ?_) ?_
  ·dsimp only[bI,cV,cr,aP,Qa,aM,aB,aC,bT];dsimp only[elD]
   (dsimp only[bk,gz,aA,aE,b5,aD,aJ,Qa,aG,aB,aC,aK,dz];refine⟨.inr rfl,?_⟩)
   refine gH (eV _) ?_;exact k
  ·refine⟨rfl,?_⟩;refine uL ?_
   (dsimp only[aL,flags,aA,aH,aY,aE,aI,aW,aD,aG,Qa,aJ,aC,aB,aK,bw,aS,bL,b9,bN];refine⟨rfl,?_⟩)
   refine g.hc<|Ax (cb:=Jc) e R ?_
   (dsimp only[aB,bw];refine⟨rfl,by decide,?_⟩)
   rw[viewF,rsF,dI,QB] at k;exact g.qr k
end
section
variable{C:Cx}{mg mb:Jq->Option Jf}{n:Nat}{Q:D->Bool->Prop}{X:DX}
theorem iJ(e:Env1 C G1 mg mb)(k:Q (.bool (decide (i>=0))) Jc):aR (aO C (n+1)) "is_count" [(.int i,b)] Q X:=by
 refine e.fn c8 (bo 5 rfl) rfl λl c P PX g=> ?_;dsimp only[c8];dsimp only[aX,b8,bp];refine bK ?_
 (dsimp only[cf,aU,aF,aN,aD,aG,Qa,aB,aK,oX,bC,br,cp,aT,aV,yo,il,i9,yq];refine⟨.inr rfl,.inr rfl,?_⟩)
 exact g.qr k
theorem zV(e:Env1 C G1 mg mb)(k:Q (.bool (gridF l)) Jc):aR (aO C (n+1)) "is_grid" [(dL l,b)] Q X:=by
 refine e.fn iP (bo 6 rfl) rfl λM c P PX g=> ?_;dsimp only[iP];dsimp only[aX,b8,bp];unfold gridF at k;refine ca ?_
 (dsimp only[b7,br,aB,bC,ou,cg,i9,bk,bS,aA,aE,b5,aD,aG,Qa,aK,cw,cE,aN,pI,cp,aT,aV,lG,il,ch,aC];refine⟨.inr rfl,.inr rfl,?_⟩)
 dsimp only[most];dsimp only[AZ,pI];rw[Qd];have no:¬ (1<=l.length/\l.length<=8)->Q (.bool Jd) Jc:=λh=>by rw[Ue h] at k;exact k
 refine cW (λN=> ?_) λN=> ?_
 ·refine kD (λp=> ?_) λp=> ?_
  ·have H:1<=l.length/\l.length<=8:=by exact⟨Ks.mp N,Ks.mp p⟩
   rw[Ud H,Wg] at k;clear no;have W:l[0]? =Ja (rowAt l 0):=by rw[rowAt,Qf (by exact Ks.mp N)];rfl
   have s:dsub (dL l) (.int 0)=Ja (.list<|rowAt l 0):=ir (j:=0) (by rw[Qw,W];rfl);refine ca ?_
   (dsimp only[b7,br,aB,bC,ou,cg,i9,bk,bS,aA,aE,b5,aQ,aN,aD,aG,Qa,aK,pI,j8];refine⟨.inr rfl,?_⟩)
   refine cj (.inl rfl) ?_;dsimp only[fsts,dz,aA,aH,aY,aE,aI,aW,cZ,aD,aG,Qa,aB,aK,bw,bL,c4];refine bR D.list (λo0=> .bool Jc) (λr T K k=> ?_) ?_
   ·dsimp only[bI,cV,cr,aP,Qa,aM,aC,aB,bT];dsimp only[elD]
    (dsimp only[cp,aT,aV,aD,aJ,Qa,aG,aC,aB,aK,lG,il];refine⟨.inr rfl,?_⟩)
    exact k
   ·refine jF (eD _ _) ?_;rw[show(KM (λo0=>Jc) l).all id=Jc from by rw[lf];exact Qy.mpr λo0 o0=>rfl]
    (dsimp only[ch,aC];refine⟨.inr rfl,?_⟩)
    refine aZ s ?_;dsimp only[cw,cE];dsimp only[most];dsimp only[AZ,pI];have no:¬ (1<=(rowAt l 0).length/\(rowAt l 0).length<=8)->Q (.bool Jd) Jc:=λh=>by rw[Ue h] at k;exact k
    refine cW (λN=> ?_) λN=> ?_
    ·refine kD (λp=> ?_) λp=> ?_
     ·rw[Ud (by exact⟨Ks.mp N,Ks.mp p⟩),Wg] at k;refine bK ?_
      (dsimp only[bk,j8,aF,aA,aE,b5];refine⟨.inr rfl,?_⟩)
      refine cj (.inl rfl) ?_;dsimp only[fsts,dz,aA,aH,aY,aE,aI,aW,cZ,aD,aG,Qa,aB,aK,bw,bL,c4];refine bR D.list (λr=> .bool (decide<|r.length=(rowAt l 0).length)) (λr T K k=> ?_) ?_
      ·dsimp only[bI,cV,cr,aP,Qa,aM,aC,aB,bT];dsimp only[elD]
       (dsimp only[aU,cM,deq,bk,bS,aA,aE,b5,aQ,aN,aD,aJ,Qa,aG,aB,aC,aK,bX,cw,cE];refine⟨.inr rfl,.inr rfl,?_⟩)
       refine aZ s ?_
       (dsimp only[cw,cE];refine⟨⟨rfl,rfl⟩,?_⟩)
       rw[show decide ((r.length:Int)=((rowAt l 0).length:Int))=decide (r.length=(rowAt l 0).length) from decide_eq_decide.mpr (by exact KH)];exact k
      ·refine jF (eD _ _) ?_;rw[lf];exact g.qr k
     ·refine bK ?_;dsimp only[bV,aF];exact g.qr<|no (by exact λq=>p<|Ks.mpr q.2)
    ·refine bK ?_;dsimp only[bV,aF];exact g.qr<|no (by exact λq=>N<|Ks.mpr q.1)
  ·refine bK ?_;dsimp only[bV,aF];exact g.qr<|no (by exact λq=>p<|Ks.mpr q.2)
 ·refine bK ?_;dsimp only[bV,aF];exact g.qr<|no (by exact λq=>N<|Ks.mpr q.1)
theorem wt(e:Env1 C G1 mg mb)(R:Rect t h w)(k:Q (.bool Jc) Jc):aR (aO C (n+1)) "is_grid" [(dC t,b)] Q X:=by
 rw[AS];exact zV e<|by rw[R.grid];exact k
def NN(t:List (List Int)):Prop:=∀r∈t,∀i∈r,0<=i
end
section
variable{C:Cx}{mg mb:Jq->Option Jf}{n:Nat}{Q:D->Bool->Prop}{X:DX}
theorem qi(e:Env1 C G1 mg mb)(R:Rect t h w)(k:Q (.list ((allF h w).map dP)) Jc):aR (aO C (n+1)) "places_of" [(dC t,b)] Q X:=by
 refine e.fn fR (bo 8 rfl) rfl λl f P PX g=> ?_;dsimp only[fR];dsimp only[aX,b8,bp];have U:=R.h8;have d:=R.w8;refine bt ?_
 (dsimp only[bJ,fsts,dnew,aE,aI,aV,aW,bE,aF,aM,Qa,aP,aC,aB];refine⟨by decide,?_⟩)
 refine d3 (.inl rfl) ?_
 (dsimp only[fsts,aA,aH,aY,aE,aI,aW,bk,bS,bl,bE,gy,gx,b5,aD,aG,Qa,aJ,aC,aB,aK,cw,cE];refine⟨.inr rfl,?_⟩)
 rw[Qd,R.len];refine⟨⟨by exact zim _,by exact zip' U⟩,?_⟩;refine dY (λi L=>∃u v,L=(Nb "grid" b (dC t)<|Nb "found" Jc (.list<|(allF i w).map dP)<|No "row" u<|No "column" v<|[])) ⟨_,_,rfl⟩ ?_ ?_
 ·rintro j L H ⟨u,v,rfl⟩ K m;dsimp only[cr,aM,Qa,aP,aC,aB,bT];refine d3 (.inl rfl) ?_
  (dsimp only[fsts,aA,aH,aY,aE,aI,aW,bk,bS,bl,bE,gy,gx,b5,aQ,aN,aD,aG,Qa,aJ,aC,aB,aK];refine⟨.inr rfl,?_⟩)
  refine aZ (lX R) ?_;dsimp only[cw,cE];rw[Qd,(R.at_ R.h1).2];refine⟨⟨by exact zim _,by exact zip' d⟩,?_⟩;refine dY (λi L=>∃v,L=(Nb "grid" b (dC t)<|Nb "found" Jc (.list<|(allF j w++(Qc i).map λc=>(j,c)).map dP)<|Nb "row" Jc (.int j)<|No "column" v<|[])) ⟨v,by rw[List.range_zero,Wm,QO]⟩ ?_ ?_
  ·rintro i L V ⟨v,rfl⟩ K m;dsimp only[cr,aM,Qa,aP,aB,aC,bT];refine jj ?_
   (dsimp only[aG,Qa,aC,aB,aK,dz,e9,dJ,aT,eX,aV,cA,aM,eG];refine⟨trivial,by decide,rfl,?_⟩)
   refine⟨?_,m _ ⟨Ja (.int i,Jc),?_⟩⟩
   ·rw[Qd,QJ,iu,Qd,Qt];have:=Yi (show j<=8 by exact KW<|zll H U) d;exact c9<|by exact zb1 (Kg this<|KW (zll V d)) rfl
   ·rw[<-gR,<-KI,QF (l₂:=[(j,i)])];rfl
  ·rintro L ⟨v,rfl⟩;exact m _ ⟨_,_,rfl⟩
 ·rintro L ⟨u,v,rfl⟩;refine df ?_
  (dsimp only[cA,aM,Qa,aP,aC,aB,aG,aJ,aK,bH];refine⟨rfl,?_⟩)
  exact g.qr k
theorem rr(e:Env1 C G1 mg mb)(R:Rect c h w){r s:List Int}(z:r.length=h)(E:s.length=w)(k:Q (.tup [dI ((Qc h).map (r1F c r)),dI ((Qc w).map (r2F c s))]) Jc):
  aR (aO C<|n+1) "rests_of" [(.tup [dC c,dI r,dI s],b)] Q X:=by
 refine e.fn gX (bo 9 rfl) rfl λl u P PX g=> ?_;dsimp only[gX];dsimp only[aX,b8,bp];have U:=R.h8;have d:=R.w8;refine dS ?_;dsimp only[aD,aG,Qa,aJ,aC,aB,aK,bG,tgl,bu,bH,bv,bD,aS,je,jI,jv,jQ,gD,jN,jJ,et,jl,jD,rY,aM,aP,bT];refine bt ?_;refine cj (.inl rfl) ?_
 (dsimp only[fsts,aA,aH,aY,aE,aI,aW,bk,bS,bl,gy,gx,b5,aD,aG,Qa,aJ,aC,aB,aK,cw,cE];refine⟨.inr rfl,?_⟩)
 rw[Qd,z];refine⟨⟨by exact zim _,by exact zip' U⟩,cH (λk=> .int (r1F c r k)) (λi V K k=> ?_) ?_⟩
 ·dsimp only[bI,cV,cr,aP,Qa,aM,aB,aC,bT];dsimp only[elD];dsimp only[bq,bk,gz,aA,aE,b5,aQ,aD,aJ,Qa,aG,aB,aC,aK,bw];refine aZ (eE<|by exact zq V z.symm) ?_
  (dsimp only[bA,cT];refine⟨.inr rfl,?_⟩)
  refine cK (.inl rfl) ?_;dsimp only[fsts,dz,aA,aH,aY,aE,aI,aW,cZ,aQ,aD,aJ,Qa,aG,aB,aC,aK,bw];refine aZ (gA R V) ?_;dsimp only[c4,bw,bL];refine cN dO dO (λo=>o.isSome) (λo a=> ?_) ?_
  ·dsimp only[bI,cV,cr,aP,Qa,aM,aC,aB,bT];refine⟨λT Y=> ?_,λo0 K k=> ?_⟩
   ·dsimp only[tstD];dsimp only[d5,br,aD,aJ,Qa,aG,aC,aB,aK];refine⟨(eB o).1,?_⟩;rw[(eB o).2,Bool.not_not];exact Y
   ·dsimp only[elD];dsimp only[aD,aJ,Qa,aG,aC,aB,aK];rw[show tg0 (dO o) (Ja ["count"])=Jb from by rcases o with⟨⟩<;>rfl];exact k
  ·rw[show((rowAt c i).filter λo=>o.isSome).map dO=((rowAt c i).filter λo=>(id o).isSome).map (λo=>dO<|id o) from rfl,mB];exact k
 ·dsimp only[bE,aF,aM,Qa,aP,aC,aB];refine bt ?_
  (dsimp only[bJ,fsts,dnew,aE,aI,aV,aW,bE,aF,aM,Qa,aP,aC,aB];refine⟨by decide,?_⟩)
  refine d3 (.inl rfl) ?_
  (dsimp only[fsts,aA,aH,aY,aE,aI,aW,bk,bS,bl,bE,gy,gx,b5,aD,aG,Qa,aJ,aC,aB,aK,cw,cE];refine⟨.inr rfl,?_⟩)
  rw[Qd,E];refine⟨⟨by exact zim _,by exact zip' d⟩,?_⟩;refine dY (λi L=>∃v,L=(Nb "view" Jd (.tup [dC c,dI r,dI s])<|Nb "cells" Jd (dC c)<|Nb "rows" Jd (dI r)<|Nb "columns" Jd (dI s)<|Nb "found" Jc (.list<|(Qc h).map λk=> .int (r1F c r k))<|Nb "others" Jc (dI<|(Qc i).map (r2F c s))<|No "k" v<|[])) ⟨_,rfl⟩ ?_ ?_
  ·rintro j L H ⟨v,rfl⟩ K m;dsimp only[cr,aM,Qa,aP,aB,aC,bT];refine jj ?_
   (dsimp only[aG,Qa,aC,aB,aK,dz,pj,aM,bq,bk,gz,aA,aE,b5,aQ,aD,bw];refine⟨trivial,?_⟩)
   refine aZ (eE<|by exact zq H E.symm) ?_
   (dsimp only[bA,cT];refine⟨.inr rfl,?_⟩)
   refine cK (.inl rfl) ?_;dsimp only[fsts,dz,aA,aH,aY,aE,aI,aW,cZ,aD,aG,Qa,aC,aB,aK,bw,bL,c4];refine cN dR (λZ=>dO<|Z[j]?.getD Jb) (λZ=>(Z[j]?.getD Jb).isSome) (λZ f=> ?_) ?_
   ·dsimp only[bI,cV,cr,aP,Qa,aM,aC,aB,bT];refine⟨λT Y=> ?_,λo0 K k=> ?_⟩
    ·dsimp only[tstD];dsimp only[d5,br,aQ,aD,aJ,Qa,aG,aB,aC,aK];refine aZ (mM<|by rw[R.row Z f];exact H) ?_;refine⟨(eB _).1,?_⟩;rw[(eB _).2,Bool.not_not];exact Y
    ·dsimp only[elD];dsimp only[aQ,aD,aJ,Qa,aG,aB,aC,aK,bw];refine aZ (mM<|by rw[R.row Z f];exact H) ?_;rw[show∀o t,tg0 (dO o) t=Jb from λo t=>by rcases o with⟨⟩<;>rfl];exact k
   ·refine gH (mB _ _) ?_;refine⟨rfl,rfl,?_⟩;refine⟨?_,m _ ⟨Ja (.int j,Jc),?_⟩⟩
    ·rw[Qd,Qd,Qt];exact c9<|by exact zll H<|zb2 d rfl
    ·rw[<-gR,rk];rfl
  ·rintro L ⟨v,rfl⟩;refine df ?_
   (dsimp only[e9,dJ,aT,eX,aV,cA,aM,Qa,aP,aC,aB,aG,aJ,aK,bH];refine⟨rfl,rfl,by decide,?_⟩)
   rw[dI,QB] at k;exact g.qr k
end
structure VOK(c:List (List (Option Int)))(r s:List Int)(h w:Nat):Prop where
 R:Rect c h w
 hr:r.length=h
 hs:s.length=w
 nc:∀row∈c,∀i,Ja i∈row->0<=i
 nr:∀i∈r,0<=i
 ns:∀i∈s,0<=i
 n1:∀k,k<h->0<=r1F c r k
 n2:∀k,k<w->0<=r2F c s k
 eq:((Qc h).map (r1F c r)).sum=((Qc w).map (r2F c s)).sum
theorem qH{f:Nat->Int}(N:1<=n)(h:∀k,k<n->0<=f k):(Qc n).map f≠ []/\0<=lmin ((Qc n).map f):=by
 have U:(Qc n).map f≠ []:=by
  intro q;have:=Uk Yy q;rw[Qd,Qt,WD] at this;exact KL N this
 refine⟨U,?_⟩;obtain⟨a,T,e⟩:=Ql.mp (iH U).1;rw[<-e];exact h a<|Qg.mp T
section
variable{C:Cx}{mg mb:Jq->Option Jf}{n:Nat}{Q:D->Bool->Prop}{X:DX}
theorem mr(e:Env1 C G1 mg mb){l:List Int}(T:l.length=m)(o:∀i∈l,0<=i)(k:Q (.bool Jc) Jc):aR (aO C (n+2)) "are_sums" [(dI l,b),(.int m,b')] Q X:=by
 refine e.fn gN (bo 10 rfl) rfl λM c P PX g=> ?_;dsimp only[gN];dsimp only[aX,b8,bp];refine bK ?_
 (dsimp only[cf,bk,j8,aF,aA,aE,b5,aU,br,cM,deq,aD,aG,Qa,aB,aC,aK,bS,bX,cw,cE,cp,aT,aV,lG,il];refine⟨.inr rfl,.inr rfl,⟨rfl,rfl⟩,?_⟩)
 rw[Qd,T,Ud rfl]
 (dsimp only[aB];refine⟨.inr rfl,?_⟩)
 refine cj (.inl rfl) ?_;dsimp only[fsts,dz,aA,aH,aY,aE,aI,aW,cZ,aD,aG,Qa,aC,aB,aK,bw,bL,c4];refine bR D.int (λi=> .bool (decide<|i>=0)) (λi h K k=> ?_) ?_
 ·dsimp only[bI,cV,cr,aP,Qa,aM,aC,aB,bT];dsimp only[elD]
  (dsimp only[aL,flags,aA,aH,aY,aE,aI,aW,aD,aJ,Qa,aG,aC,aB,aK,bA,aF,bl,bL];refine⟨rfl,?_⟩)
  exact g.hc<|iJ e k
 ·refine jF (eD _ _) ?_;rw[lf,Qy.mpr λi h=>Ud (o i h)];exact g.qr k
theorem uR(e:Env1 C G1 mg mb)(V:VOK c r s h w)(k:Q (.bool Jc) Jc):aR (aO C (n+3)) "is_view" [(.tup [dC c,dI r,dI s],b)] Q X:=by
 refine e.fn f_is_view (bo 11 rfl) rfl λl u P PX g=> ?_;dsimp only[f_is_view];dsimp only[aX,b8,bp];refine ca ?_
 (dsimp only[b7,br,aB,bC,aL,flags,aA,aH,aE,aI,aQ,aN,aD,aG,Qa,aJ,aC,aK,bG,tgl,bu,bH,bv,bD,cS,cm,bw,aS,aU,d4,deq,bk,bS,bX,b5,mn,aT,aV,cE,cp,mi,il,ch];refine⟨.inr rfl,.inr rfl,⟨rfl,rfl⟩,?_⟩)
 refine kD (λo0=> ?_) λh=>absurd rfl h;refine⟨rfl,?_⟩;refine g.hc<|wt e V.R ?_;dsimp only[br,ch,aC];refine d3 (.inl rfl) ?_;dsimp only[fsts,aA,aH,aY,aE,aI,aW,cZ,aQ,aN,aD,aG,Qa,aJ,aC,aB,aK,bG,tgl,bu,bH,bv,bD,cS,cm,bw,bL,je,jI,jv,jQ,gD,jN,jJ,et,jl,jD,c4];refine dK dR (λo0 L=>∃v,L=(Nb "thing" Jd (.tup [dC c,dI r,dI s])<|No "row" v<|No "rows" Jb<|No "columns" Jb<|[])) _ _ ⟨_,rfl⟩ ?_ ?_
 ·rintro j Z L f ⟨v,rfl⟩ K d;have f:Z∈c:=QE f;dsimp only[bH,cr,aM,Qa,aP,aC,aB,bT];refine ca ?_
  (dsimp only[bC,br,bk,j8,aA,aE,b5];refine⟨.inr rfl,?_⟩)
  refine cj (.inl rfl) ?_;dsimp only[fsts,dz,aA,aH,aY,aE,aI,aW,cZ,aD,aG,Qa,aJ,aC,aB,aK,bw,bL,c4];refine bR dO (λo0=> .bool Jc) (λo T K k=> ?_) ?_
  ·dsimp only[bI,cV,cr,aP,Qa,aM,aC,aB,bT];dsimp only[elD];dsimp only[b7,aL,flags,aA,aH,aY,aE,aI,aW,aD,aJ,Qa,aG,aC,aB,aK,hM,br];refine⟨(eB o).1,?_⟩;rw[(eB o).2]
   induction o with
   |none=>exact k
   |some i=>
    refine⟨rfl,?_⟩;refine g.hc<|iJ e ?_;rw[Ud (V.nc Z f i T)];exact k
  ·refine jF (eD _ _) ?_;rw[lf,Qy.mpr λo0 o0=>rfl];dsimp only[ch,aC];exact d _ ⟨_,rfl⟩
 ·rintro L ⟨v,rfl⟩;refine hX ?_;refine ca ?_
  (dsimp only[b7,br,aB,bC,aL,flags,aA,aH,aE,aI,bk,bS,aF,b5,aQ,aN,aD,aG,Qa,aJ,aC,aK,cS,cm,bG,tgl,bu,bH,bv,bD,gm,bw,aS,cw,cE,gn];refine⟨rfl,.inr rfl,?_⟩)
  rw[Qd,V.R.len];refine g.hc<|mr e V.hr V.nr ?_
  (dsimp only[br,ch,aC];refine⟨rfl,.inr rfl,?_⟩)
  refine aZ (lX V.R) ?_;dsimp only[cw,cE];rw[Qd,(V.R.at_ V.R.h1).2];refine g.hc<|mr e V.hs V.ns ?_;dsimp only[br,ch,aC];refine dS ?_
  (dsimp only[aL,flags,aA,aH,aY,aE,aI,aW,aD,aG,Qa,aJ,aC,aB,aK,bG,tgl,bu,bH,bv,bD,aS,bL,b9,bN];refine⟨rfl,?_⟩)
  refine g.hc<|rr e V.R V.hr V.hs ?_;dsimp only[aB,bG,tgl,bu,bH,bv,bD,aC,aF,bE,iS,aM,Qa,aP,bT];refine bK ?_
  (dsimp only[cf,aU,aF,cM,deq,bk,gz,aA,aE,b5,aD,aG,Qa,aJ,aB,aC,aK,dz,bX,br,aN,na,xm,oX];refine⟨.inr rfl,?_⟩)
  rw[eV,eV];dsimp only[AX];have B:=qH V.R.h1 V.n1;have m:=qH V.R.w1 V.n2;refine⟨B.1,?_⟩;rw[Ud (show lmin ((Qc h).map (r1F c r))>=0 from B.2)]
  (dsimp only[aB];refine⟨.inr rfl,?_⟩)
  refine⟨m.1,?_⟩;rw[Ud (show lmin ((Qc w).map (r2F c s))>=0 from m.2)]
  (dsimp only[aB];refine⟨.inr rfl,.inr rfl,⟨rfl,rfl⟩,?_⟩)
  rw[Ud V.eq];exact g.qr k
theorem gO(e:Env1 C G1 mg mb)(V:VOK c r s h w)(k:Q .none Jc):aR (aO C (n+4)) "need_view" [(.tup [dC c,dI r,dI s],b)] Q X:=by
 refine e.fn ec (bo 12 rfl) rfl λl u P PX g=> ?_;dsimp only[ec];dsimp only[aX,b8,bp];refine ca ?_
 (dsimp only[bC,br,aL,flags,aA,aH,aE,aI,aD,aG,Qa,aB,aK,bG,tgl,bu,bH,bv,bD,aC,aS];refine⟨rfl,?_⟩)
 refine g.hc<|uR e V ?_;dsimp only[br,ch,aC];exact g.qn k
end
theorem gQ{L:Type}{f:L->Int}{l:List L}(h:∀a∈l,0<=f a):0<=(l.map f).sum:=by
 induction l with
 |nil=>exact Kc 0
 |cons a l i=>rw[Qo,QK];exact Yh (h a (.head _)) (i λb R=>h b (.tail _ R))
theorem ri{L:Type}(f g:L->Int)(l:List L):(l.map f).sum-(l.map g).sum=(l.map λa=>f a-g a).sum:=by
 induction l with
 |nil=>rfl
 |cons a l i=>rw[Qo,Qo,Qo,QK,QK,QK,<-i];exact zr14 _ _ _ _
theorem jB{L:Type}(f g:L->Int)(l:List L):(l.map f).sum+(l.map g).sum=(l.map λa=>f a+g a).sum:=by
 induction l with
 |nil=>rfl
 |cons a l i=>rw[Qo,Qo,Qo,QK,QK,QK,<-i];exact zr8 _ _ _ _
theorem ib{L:Type}(g:L->Option Int)(l:List L):(l.filterMap g).sum=(l.map λa=>(g a).getD 0).sum:=by
 induction l with
 |nil=>rfl
 |cons a l W=>
  induction h:g a with
  |none=>rw[List.filterMap_cons_none h,Qo,QK,h,W];exact(We _).symm
  |some i=>rw[List.filterMap_cons_some h,Qo,QK,QK,h,W];rfl
theorem ik{L:Type}(l:List L):(l.map λo0=>(0:Int)).sum=0:=by
 induction l with
 |nil=>rfl
 |cons a l i=>rw[Qo,QK,i];rfl
theorem pC(f:Nat->Nat->Int)(h w:Nat):((Qc h).map λr=>((Qc w).map λc=>f r c).sum).sum=((Qc w).map λc=>((Qc h).map λr=>f r c).sum).sum:=by
 induction h with
 |zero=>exact(ik _).symm
 |succ h i=>
  rw[List.range_succ,QF,WE,i];have:(λc=>((Qc h++[h]).map λr=>f r c).sum)=λc=>((Qc h).map λr=>f r c).sum+f h c:=by
   funext c;rw[QF,WE];show _+(f h c+0)=_;rw[Kf]
  rw[this,<-jB];show _+(((Qc w).map λc=>f h c).sum+0)=_;rw[Kf]
theorem yC(R:Rect t h w)(n:r<h):rowAt t r=(Qc w).map (cell t r):=by
 have l:=(R.at_ n).2;refine WM (by rw[l,Qd,Qt]) λi N p=> ?_;rw[Wj,Wa,cell,Qf N];rfl
theorem p8{L:Type}{t:List (List L)}(R:Rect t h w):t=(Qc h).map (rowAt t):=by
 refine WM (by rw[R.len,Qd,Qt]) λi N p=> ?_;rw[Wj,Wa,rowAt,Qf N];rfl
theorem Rect.range{L:Type}(f:Nat->Nat->L)(N:1<=h)(y:h<=8)(A:1<=w)(T:w<=8):Rect ((Qc h).map λr=>(Qc w).map λc=>f r c) h w:=by
 refine⟨by rw[Qd,Qt],λr n=> ?_,N,y,A,T⟩;obtain⟨i,o0,rfl⟩:=Ql.mp n;rw[Qd,Qt]
theorem t4{ns:List Int}(N:1<=h)(y:h<=8)(A:1<=w)(T:w<=8):Rect (tabF ns h w) h w:=Rect.range _ N y A T
theorem Ar(ns:List Int)(h w:Nat):NN (tabF ns h w):=by
 intro r n i t;obtain⟨a,o0,rfl⟩:=Ql.mp n;obtain⟨c,o0,rfl⟩:=Ql.mp t;exact vF _ _
theorem kj{L:Type}(f:Nat->List L)(n:r<h):rowAt ((Qc h).map f) r=f r:=by
 rw[rowAt,Qw,Wu n];rfl
theorem dF{L:Type}(f:Nat->L)(h:c<w)(d:L):((Qc w).map f)[c]?.getD d=f c:=by
 rw[Qw,Wu h];rfl
def hv(t:List (List Int))(h:Nat->Nat->Bool)(r c:Nat):Int:=cond (h r c) (cell t r c) 0
theorem yj(t:List (List Int))(h:Nat->Nat->Bool)(r c:Nat):cell t r c-(cellO t h r c).getD 0=hv t h r c:=by
 unfold cellO hv;cases h r c with
 |true=>exact Yc _
 |false=>exact Yw _
theorem yg(R:Rect t h w)(i:Nat->Nat->Bool)(q:k<h):r1F (cellsF t i h w) (rsF t) k=((Qc w).map λc=>hv t i k c).sum:=by
 rw[r1F,rsF,Qw,(R.at_ q).1,cellsF,kj _ q];show(rowAt t k).sum-_=_;rw[yC R q,List.filterMap_map,ib,ri]
 congr 2
 funext c;exact yj t i k c
theorem x9{t:List (List Int)}{h w:Nat}(R:Rect t h w)(i:Nat->Nat->Bool){k:Nat}(q:k<w):r2F (cellsF t i h w) (csF t w) k=((Qc h).map λr=>hv t i r k).sum:=by
 rw[r2F,csF,dF _ q,cellsF,List.filterMap_map,ib];have e:(t.map λr=>r[k]?.getD 0).sum=((Qc h).map λr=>cell t r k).sum:=by
  conv=>lhs;rw[p8 R]
  rw[QB];rfl
 rw[e,ri]
 congr 1
 refine Qs λr n=> ?_;show cell t r k-(((Qc w).map λc=>cellO t i r c)[k]?.getD Jb).getD 0=_;rw[dF _ q];exact yj t i r k
theorem yl(R:Rect t h w)(N:NN t)(i:Nat->Nat->Bool)(n:r<h)(C:c<w):0<=hv t i r c:=by
 unfold hv;cases i r c with
 |true=>exact(qc R).mp N r c n C
 |false=>exact Kc 0
theorem vok(R:Rect t h w)(N:NN t)(d:Nat->Nat->Bool):VOK (cellsF t d h w) (rsF t) (csF t w) h w:=by
 refine⟨Rect.range _ R.h1 R.h8 R.w1 R.w8,by rw[rsF,Qd];exact R.len,by rw[csF,Qd,Qt],λZ o i V=> ?_,λi V=> ?_,λi V=> ?_,λk q=> ?_,λk q=> ?_,?_⟩
 ·obtain⟨r,n,rfl⟩:=Ql.mp o;obtain⟨c,C,e⟩:=Ql.mp V;unfold cellO at e
  induction U:d r c with
  |true=>rw[U] at e;exact ns e
  |false=>rw[U] at e;obtain rfl:=sj e;exact(qc R).mp N r c (Qg.mp n) (Qg.mp C)
 ·obtain⟨r,n,rfl⟩:=Ql.mp V;have:=gQ (f:=id) (l:=r) λa T=>N r n a T
  rwa [List.map_id] at this
 ·obtain⟨c,C,rfl⟩:=Ql.mp V;refine gQ λr n=> ?_;refine N r n _ ?_;rw[Qf (by rw[R.row r n];exact Qg.mp C)];exact KQ _
 ·rw[yg R d q];exact gQ λc C=>yl R N d q<|Qg.mp C
 ·rw[x9 R d q];exact gQ λr n=>yl R N d (Qg.mp n) q
 ·rw[Qs λk q=>yg R d<|Qg.mp q,Qs λk q=>x9 R d (Qg.mp q)];exact pC _ h w
noncomputable def okO(o:Option Int)(i:Int):Bool:= !(o.isSome&& !decide (o.getD 0=i))
def cO(c:List (List (Option Int)))(a b:Nat):Option Int:=(rowAt c a)[b]?.getD Jb
def hasF(t:List (List Int))(c:List (List (Option Int)))(r s:List Int)(w:Nat):Bool:=
 decide (t.length=c.length)&&(!((t.zip c).any λp=> !decide (p.1.length=p.2.length)||(p.1.zip p.2).any λq=> !okO q.2 q.1)&&(decide (rsF t=r)&&decide (csF t w=s)))
theorem uw(T:Rect t h w)(R:Rect c h w)(m:∀a b,a<h->b<w->okO (cO c a b) (cell t a b)=Jc)(N:rsF t=r)(p:csF t w=s):hasF t c r s w=Jc:=by
 unfold hasF;rw[T.len,R.len,Ud rfl,Ud N,Ud p,Wg,WA,WA,QQ,List.any_eq_false];rintro ⟨O,I⟩ j;obtain⟨a,D⟩:=Wr j;obtain⟨L,x⟩:=WR.mp D;have l:=T.row O<|QE L;have J:=R.row I<|QE x;have Y:a<t.length:=(QI.mp L).1;show ¬ (!decide (O.length=I.length)||(O.zip I).any λq=> !okO q.2 q.1)=Jc;rw[Ud (by rw[l,J]),Bool.not_true,Bool.false_or,Bool.not_eq_true,List.any_eq_false];rintro ⟨i,o⟩ z;obtain⟨b,g⟩:=Wr z;obtain⟨H,v⟩:=WR.mp g;have d:b<O.length:=(QI.mp H).1;have K:cell t a b=i:=by rw[cell,rowAt,L];show O[b]?.getD 0=i;rw[H];rfl
 have Z:cO c a b=o:=by rw[cO,rowAt,x];show I[b]?.getD Jb=o;rw[v];rfl
 have:=m a b (by rw[<-T.len];exact Y) (by rw[<-l];exact d);rw[K,Z] at this;show ¬ (!okO o i)=Jc;rw[this];exact QC
section
variable{C:Cx}{mg mb:Jq->Option Jf}{n:Nat}{Q:D->Bool->Prop}{X:DX}
theorem kF(e:Env1 C (GB cb) mg mb)(k:Q (.bool Jc) Jc):aR (aO C (n+1)) "_law_whole" [(.int i,b)] Q X:=by
 refine e.fn fy (bo 34 rfl) rfl λl c P PX g=> ?_;dsimp only[fy];dsimp only[aX,b8,bp];refine bK ?_
 (dsimp only[cf,bC,aF,cp,aT,aV,br,aD,aG,Qa,aB,aK,yo,il,i9,yq];refine⟨.inr rfl,.inr rfl,?_⟩)
 exact g.qr k
theorem nW(e:Env1 C G1 mg mb)(T:Rect t A w)(N:NN t)(k:Q (.bool (hasF t c r s w)) Jc):
  aR (aO C<|n+2) "_law_has" [(dT t,b),(.tup [dC c,dI r,dI s],b')] Q X:=by
 refine e.fn gT (bo 36 rfl) rfl λM W l PX g=> ?_;dsimp only[gT];dsimp only[aX,b8,bp];unfold hasF at k;refine ca ?_
 (dsimp only[b7,br,aB,aU,d4,deq,bk,bS,aA,aE,b5,aQ,aN,aD,aG,Qa,aJ,aC,aK,cS,cm,cw,cE,bX,bC,cp,aT,aV,lG,il,ch];refine⟨.inr rfl,.inr rfl,.inr rfl,⟨rfl,rfl⟩,?_⟩)
 rw[Qd,Qd];refine lU (λE=> ?_) λE=> ?_
 ·refine bK ?_;dsimp only[bV,aF];rw[Ue (by exact λq=>E<|congrArg Int.ofNat q)] at k;exact g.qr k
 rw[Ud (by exact KH.mp E),Wg] at k;refine hX ?_;refine d3 (.inr rfl) ?_;dsimp only[fsts,aA,aH,aY,aE,aI,aW,aQ,aN,aD,aG,Qa,aJ,aC,aB,aK,bG,tgl,bu,bH,bv,bD,cS,cm,bw,bL,b9,eL,bN,je,jI,jv,jJ,jQ,gD,jN,et,jl,jD,AN];rw[Aa];refine j7 (λp:List Int×List (Option Int)=> .tup [dI p.1,dR p.2]) (λL=>X4 λu v x y=>L=(Nb "_law_table_here" Jd (dT t)<|Nb "_law_view_here" Jd (.tup [dC c,dI r,dI s])<|No "_law_row" u<|No "_law_cells" v<|No "_law_count_here" x<|No "_law_cell" y<|[]))
  (λp=> !decide (p.1.length=p.2.length)||(p.1.zip p.2).any λq=> !okO q.2 q.1) (.bool Jd) Jc _ _ ⟨_,_,_,_,rfl⟩ ?_ ?_ ?_
 ·rintro p L U ⟨u,v,x,y,rfl⟩ K G Y;have U:=(Kr U).1;dsimp only[gD,bu,bH,bv,bD,iS,aM,Qa,aP,aC,aB,bT];refine ca ?_
  (dsimp only[b7,br,aB,aU,d4,deq,bk,bS,aA,aE,b5,aD,aG,Qa,aJ,aC,aK,cw,cE,bX,bC,cp,aT,aV,lG,il,ch];refine⟨.inr rfl,.inr rfl,.inr rfl,⟨rfl,rfl⟩,?_⟩)
  rw[Qd,Qd];refine lU (λB=> ?_) λB=> ?_
  ·refine bK ?_;dsimp only[bV,aF];refine Y ?_ _;rw[Ue (by exact λq=>B<|congrArg Int.ofNat q)];rfl
  rw[Ud (show p.1.length=p.2.length by exact KH.mp B)] at G Y;refine hX ?_;refine d3 (.inr rfl) ?_;dsimp only[fsts,aA,aH,aY,aE,aI,aW,aD,aG,Qa,aJ,aC,aB,aK,bw,bL,b9,eL,bN,je,jI,jv,jJ,bH,bD,gD,bu,bv,jQ,jN,jl,jD,AN];rw[Ae];refine j7 (λp:Int×Option Int=> .tup [.int p.1,dO p.2]) (λL=>∃x y,L=(Nb "_law_table_here" Jd (dT t)<|Nb "_law_view_here" Jd (.tup [dC c,dI r,dI s])<|Nb "_law_row" Jd (dI p.1)<|Nb "_law_cells" Jd (dR p.2)<|No "_law_count_here" x<|No "_law_cell" y<|[]))
   (λq=> !okO q.2 q.1) (.bool Jd) Jc _ _ ⟨_,_,rfl⟩ ?_ ?_ ?_
  ·rintro q L z ⟨x,y,rfl⟩ K F R;have z:=(Kr z).1;obtain⟨i,o⟩:=q;dsimp only[gD,bu,eG,bv,dt,iS,aM,Qa,aP,aC,aB,bT];refine ca ?_
   (dsimp only[b7,br,aB,cf,aU,d4,deq,aD,aG,Qa,aC,aK,d5,aN,l5,bC,aL,flags,aA,aH,aE,aI,bA,aF];refine⟨rfl,?_⟩)
   refine g.hc<|kF (cb:=Jc) e ?_;dsimp only[br,ch,aC];rw[Ue (by have:=N _ U _ z;exact KF.mpr this)];dsimp only[aC];refine⟨(eB _).1,?_⟩;rw[(eB _).2,Bool.not_not]
   induction o with
   |none=>exact F rfl _ ⟨_,_,rfl⟩
   |some j=>
    refine⟨⟨rfl,rfl⟩,?_⟩;refine lU (λV=> ?_) λV=> ?_
    ·refine bK ?_;dsimp only[bV,aF];refine R ?_ _;show(!!(Jc&& !decide (j=i)))=Jc;rw[Ue V];rfl
    ·refine F ?_ _ ⟨_,_,rfl⟩;show(!!(Jc&& !decide (j=i)))=Jd;rw[Ud V];rfl
  ·intro f P ⟨x,y,h⟩;subst h;exact G f _ ⟨_,_,_,_,rfl⟩
  ·intro f P;exact Y f _
 ·intro f P ⟨u,v,x,y,h⟩;subst h;rw[f,Bool.not_false,Wg] at k;refine hX ?_;refine bK ?_;dsimp only[cf,aU,aF,cM,deq,aQ,aN,aD,aG,Qa,aJ,aC,aB,aK,gm,cm,aL,flags,aA,aH,aE,aI,bw,aS,br,gn];refine cj (.inl rfl) ?_;dsimp only[fsts,aA,aH,aY,aE,aI,aW,cZ,aD,aG,Qa,aJ,aC,aB,aK,bw,bL,c4];refine bR dI (λr=> .int r.sum) (λr Z K k=> ?_) ?_
  ·dsimp only[bI,cV,cr,aP,Qa,aM,aC,aB,bT];dsimp only[elD]
   (dsimp only[bk,gz,aA,aE,b5,aD,aJ,Qa,aG,aC,aB,aK,dz];refine⟨.inr rfl,?_⟩)
   refine gH (eV _) ?_;exact k
  ·rw[show(D.list<|KM (λr:List Int=>D.int r.sum) t)=dI (rsF t) from by rw[dI,rsF,QB];rfl];refine⟨⟨l8 _ _,l8 _ _⟩,?_⟩;rw[yh];refine cW (λJ=> ?_) λJ=> ?_
   ·rw[Ud J,Wg] at k;refine⟨rfl,?_⟩;refine g.hc<|Ax (cb:=Jc) e T ?_;refine⟨⟨l8 _ _,l8 _ _⟩,?_⟩;rw[yh];exact g.qr k
   ·rw[Ue J] at k;exact g.qr k
 ·intro f P;rw[f] at k;exact g.qr k
theorem zz(e:Env1 C G1 mg mb)(k:Q (.tup [dC c,dI r,dI s]) Jc):aR (aO C (n+1)) "_law_copy" [(.tup [dC c,dI r,dI s],b)] Q X:=by
 refine e.fn fU (bo 32 rfl) rfl λl u P PX g=> ?_;dsimp only[fU];dsimp only[aX,b8,bp];refine bK ?_;dsimp only[bM,fsts,dtup,aA,aH,aT,aY,aE,aI,aV,aW,bk,g6,b5,aQ,aN,aD,aG,Qa,aB,aK,bG,tgl,bu,bH,bv,bD,aC,gm,cm,bw,xg,gn];refine cj (.inl rfl) ?_;dsimp only[fsts,aA,aH,aY,aE,aI,aW,cZ,aQ,aN,aD,aG,Qa,aB,aK,bG,tgl,bu,bH,bv,bD,aC,cS,cm,bw,bL,c4];refine bR dR dR (λo h K k=> ?_) ?_
 ·dsimp only[bI,cV,cr,aP,Qa,aM,aC,aB,bT];dsimp only[elD]
  (dsimp only[bk,g6,aA,aE,b5,aD,aJ,Qa,aG,aC,aB,aK,bw,xg,tgl];refine⟨.inr rfl,?_⟩)
  rw[cJ _ qP];exact k
 ·(dsimp only[bl];refine⟨.inr rfl,.inr rfl,by decide,?_⟩)
  rw[cJ _ k9];dsimp only[aB,bl];rw[cJ _ k9];dsimp only[aB,bl,aF];exact g.qr k
end
def psF(c:List (List (Option Int)))(h w:Nat):List (Nat×Nat):=(allF h w).filter λp=> !(cO c p.1 p.2).isSome
theorem hH{p:Nat×Nat}(D:p∈psF c h w):p.1<h/\p.2<w/\cO c p.1 p.2=Jb:=by
 obtain⟨N,Y⟩:=Qi.mp D;refine⟨(allF_mem.mp N).1,(allF_mem.mp N).2,?_⟩
 induction e:cO c p.1 p.2 with
 |none=>rfl
 |some i=>rw[e] at Y;exact ft Y
theorem tt(R:Rect c h w)(T:a<h)(v:b<w):dsub (dR (rowAt c a)) (.int b)=Ja (dO (cO c a b)):=mM<|by rw[(R.at_ T).2];exact v
noncomputable abbrev dNs(l:List Nat):D:= .list (l.map λ(k:Nat)=> .int (k:Int))
noncomputable def zF(c:List (List (Option Int))):List (List Int):=c.map λr=>r.map λo=>o.getD 0
theorem Rect.z(R:Rect c h w):Rect (zF c) h w:=by
 refine⟨by rw[zF,Qd];exact R.len,λr T=> ?_,R.h1,R.h8,R.w1,R.w8⟩;obtain⟨y,H,rfl⟩:=Ql.mp T;rw[Qd];exact R.row y H
theorem z1(R:Rect c h w)(r:List Int)(q:k<h):r[k]?.getD 0-(rowAt (zF c) k).sum=r1F c r k:=by
 unfold r1F;rw[ib,show rowAt (zF c) k=(rowAt c k).map λo=>o.getD 0 from by rw[rowAt,zF,Qw,(R.at_ q).1];rfl];rfl
theorem z2(R:Rect c h w)(s:List Int)(q:k<w):s[k]?.getD 0-(csF (zF c) w)[k]?.getD 0=r2F c s k:=by
 unfold r2F csF;rw[dF _ q,ib,zF,QB]
 congr 2
 refine Qs λr T=> ?_;show(r.map λo=>o.getD 0)[k]?.getD 0=_;rw[Qw,Qf (by rw[R.row r T];exact q)];rfl
section
variable{C:Cx}{mg mb:Jq->Option Jf}{n:Nat}{Q:D->Bool->Prop}{X:DX}
theorem hA(e:Env1 C G1 mg mb)(R:Rect c h w)(k:Q (.list ((psF c h w).map dP)) Jc):aR (aO C (n+2)) "hidden_in" [(dC c,b)] Q X:=by
 refine e.fn gc (bo 14 rfl) rfl λl u P PX g=> ?_;dsimp only[gc];dsimp only[aX,b8,bp];refine bK ?_;refine cK (.inl rfl) ?_
 (dsimp only[fsts,aA,aH,aY,aE,aI,aW,cZ,aL,flags,aD,aG,Qa,aB,aK,bw,aS,bL,b9,bN];refine⟨rfl,?_⟩)
 refine g.hc<|qi e R ?_;dsimp only[c4,aB,bw,bl];refine cN dP dP (λp=> !(cO c p.1 p.2).isSome) (λp D=> ?_) ?_
 ·obtain⟨N,Y⟩:=allF_mem.mp D;dsimp only[dP];dsimp only[bI,cV,cr,aP,Qa,aM,aC,aB,bT];refine⟨λT q=> ?_,λo0 K k=> ?_⟩
  ·dsimp only[tstD];dsimp only[hM,br,aQ,aN,aD,aJ,Qa,aG,aC,aB,aK,fP,cm,e8];refine aZ (gA R N) ?_;refine aZ (tt R N Y) ?_;refine⟨(eB _).1,?_⟩;rw[(eB _).2];exact q
  ·dsimp only[elD];dsimp only[aD,aJ,Qa,aG,aC,aB,aK,bG,tgl,bu,eG,bv,dt];exact k
 ·dsimp only[aF];exact g.qr k
variable{cb:Bool}
theorem ig(e:Env1 C (GB cb) mg mb)(R:Rect c h w)(k:Q (.list ((psF c h w).map dP)) Jc):aR (aO C (n+2)) "_law_hidden" [(.tup [dC c,dI r,dI s],b)] Q X:=by
 refine e.fn eN (bo 37 rfl) rfl λl u P PX g=> ?_;dsimp only[eN];dsimp only[aX,b8,bp];refine bK ?_;refine cK (.inl rfl) ?_
 (dsimp only[fsts,aA,aH,aY,aE,aI,aW,cZ,aL,flags,aQ,aN,aD,aG,Qa,aB,aK,bG,tgl,bu,bH,bv,bD,aC,cS,cm,bw,aS,bL,b9,bN];refine⟨rfl,?_⟩)
 refine g.hc<|yd e R dO ?_;dsimp only[c4,aB,bw,bl];refine cN dP dP (λp=> !(cO c p.1 p.2).isSome) (λp D=> ?_) ?_
 ·obtain⟨N,B⟩:=allF_mem.mp D;dsimp only[dP];dsimp only[bI,cV,cr,aP,Qa,aM,aC,aB,bT];refine⟨λT Y=> ?_,λo0 K k=> ?_⟩
  ·dsimp only[tstD];dsimp only[hM,br,aQ,aN,aD,aJ,Qa,aG,aC,aB,aK,fP,cm,e8,cS];refine aZ (gA R N) ?_;refine aZ (tt R N B) ?_;refine⟨(eB _).1,?_⟩;rw[(eB _).2];exact Y
  ·dsimp only[elD];dsimp only[aD,aJ,Qa,aG,aC,aB,aK,bG,tgl,bu,eG,bv,dt];exact k
 ·dsimp only[aF];exact g.qr k
theorem fC(e:Env1 C (GB cb) mg mb){p:Nat->Bool}(L:m<=8)(k:Q (.bool Jc) Jc):aR (aO C (n+2)) "_law_numbers" [(dNs ((Qc m).filter p),b),(.int m,b')] Q X:=by
 refine e.fn eA (bo 35 rfl) rfl λl c P PX g=> ?_;dsimp only[eA];dsimp only[aX,b8,bp];refine ca ?_
 (dsimp only[b7,br,aB,bC,bk,j8,aA,aE,b5,cp,aT,aV,aD,aG,Qa,aC,aK,lG,il,ch];refine⟨.inr rfl,.inl<|by decide,?_⟩)
 refine cj (.inl rfl) ?_;dsimp only[fsts,dz,aA,aH,aY,aE,aI,aW,cZ,aD,aG,Qa,aC,aB,aK,bw,bL,c4];refine bR (λ(k:Nat)=> .int (k:Int)) (λo0=> .bool Jc) (λi t K k=> ?_) ?_
 ·dsimp only[bI,cV,cr,aP,Qa,aM,aC,aB,bT];dsimp only[elD]
  (dsimp only[aL,flags,aA,aH,aY,aE,aI,aW,aD,aJ,Qa,aG,aC,aB,aK,bA,aF,bl,bL];refine⟨rfl,?_⟩)
  exact g.hc<|kF e k
 ·refine jF (eD _ _) ?_;rw[lf,Qy.mpr λo0 o0=>rfl];dsimp only[ch,aC];refine bK ?_;dsimp only[aU,aF,cM,deq,aD,aG,Qa,aC,aB,aK];refine cK (.inl rfl) ?_;dsimp only[fsts,aA,aH,aY,aE,aI,aW,aD,aG,Qa,aB,aC,aK,bA,bl,gy,gx];refine⟨rg L,eW (λ(k:Nat)=> .int (k:Int)) p (λi t=> ?_) ?_⟩
  ·dsimp only[bI,cV,cr,aP,Qa,aM,aC,aB,bT];refine⟨λT Y=> ?_,λo0 K k=> ?_⟩
   ·dsimp only[tstD];dsimp only[aU,br,iU,aD,aJ,Qa,aG,aC,aB,aK];rw[iT];refine⟨⟨rfl,cx _ (λa=>eO _ _) _⟩,?_⟩;rw[List.any_map];rw[show((Qc m).filter p).any ((λd=>D.eqv d<|.int i)∘λ(k:Nat)=> .int (k:Int))=p i from ?_]
    ·exact Y
    ·rw[Kz,KS]
     constructor
     ·rintro ⟨x,hx,h⟩;have h:D.eqv (.int (x:Int)) (.int (i:Int))=Jc:=h;rw[bX,Uj] at h;have:x=i:=by exact KH.mp h
      rw[<-this];exact(Qi.mp hx).2
     ·intro U;exact⟨i,Qi.mpr ⟨Qg.mpr t,U⟩,ci _⟩
   ·dsimp only[elD];dsimp only[aD,aJ,Qa,aG,aC,aB,aK,bA];exact k
  ·refine⟨⟨by rw[eh];exact cx _ (λa=>eO _ _) _,by rw[eh];exact cx _ (λa=>eO _ _) _⟩,?_⟩;rw[ci];exact g.qr k
theorem kS(e:Env1 C (GB cb) mg mb){r s:List Int}(R:Rect c h w)(T:r.length=h)(E:s.length=w)(k:Q (.tup [dI ((Qc h).map (r1F c r)),dI ((Qc w).map (r2F c s))]) Jc):
  aR (aO C<|n+2) "_law_rests" [(.tup [dC c,dI r,dI s],b)] Q X:=by
 refine e.fn fg (bo 33 rfl) rfl λM u P PX g=> ?_;dsimp only[fg];dsimp only[aX,b8,bp];have Z:=R.z;refine bt ?_;refine cj (.inl rfl) ?_;dsimp only[fsts,aA,aH,aY,aE,aI,aW,cZ,aQ,aN,aD,aG,Qa,aJ,aC,aB,aK,bG,tgl,bu,bH,bv,bD,cS,cm,bw,bL,c4];refine bR dR (λH=>dI<|H.map λo=>o.getD 0) (λH f K k=> ?_) ?_
 ·dsimp only[bI,cV,cr,aP,Qa,aM,aC,aB,bT];dsimp only[elD];refine cj (.inl rfl) ?_;dsimp only[fsts,aA,aH,aY,aE,aI,aW,cZ,aD,aJ,Qa,aG,aC,aB,aK,bw,bL,c4];refine bR dO (λo=> .int (o.getD 0)) (λo d K k=> ?_) ?_
  ·dsimp only[bI,cV,cr,aP,Qa,aM,aC,aB,bT];dsimp only[elD]
   (dsimp only[aQ,bk,nh,aA,aE,b5,hM,br,aD,aJ,Qa,aG,aC,aB,aK,bJ,fsts,dnew,aH,aT,aY,aI,aV,aW,aN,bl];refine⟨by decide,.inl<|by decide,?_⟩)
   refine⟨(eB _).1,?_⟩;rw[(eB _).2]
   induction o with
   |none=>exact k
   |some i=>exact k
  ·rw[dI,QB] at k;exact k
 dsimp only[bE,aF,aM,Qa,aP,aC,aB];rw[show(c.map λH=>dI<|H.map λo=>o.getD 0)=(zF c).map dI from by rw[zF,QB];rfl];refine bt ?_;refine cj (.inl rfl) ?_
 (dsimp only[fsts,aA,aH,aY,aE,aI,aW,bk,bS,bl,gy,gx,b5,aD,aG,Qa,aJ,aC,aB,aK,cw,cE];refine⟨.inl<|by decide,?_⟩)
 rw[Z.lenD];refine⟨rg R.h8,cH (λk=> .int (r1F c r k)) (λi t K k=> ?_) ?_⟩
 ·dsimp only[bI,cV,cr,aP,Qa,aM,aC,aB,bT];dsimp only[elD];dsimp only[bq,bk,gz,aA,aE,b5,aQ,aD,aJ,Qa,aG,aC,aB,aK,aN,bG,tgl,bu,bH,bv,bD,gn,cm,bw];refine aZ (eE<|by rw[T];exact t) ?_
  (dsimp only[bA,cT];refine⟨.inl<|by decide,?_⟩)
  refine aZ (ji Z t) ?_;dsimp only[dz];refine gH (eV _) ?_;rw[z1 R r t];exact k
 dsimp only[bE,aF,aM,Qa,aP,aC,aB];refine bt ?_
 (dsimp only[aL,flags,aA,aH,aY,aE,aI,aW,aD,aG,Qa,aJ,aC,aB,aK,bw,aS,bL,b9,bN];refine⟨rfl,?_⟩)
 refine g.hc<|Ax e Z ?_;dsimp only[aB,bw,bE,aF,aM,Qa,aP,aC];refine df ?_
 (dsimp only[e9,dJ,aT,eX,aV,nf,cA,aM,Qa,aC,aB,aG,aK,bH];refine⟨rfl,?_⟩)
 refine cj (.inl rfl) ?_
 (dsimp only[fsts,aA,aH,aY,aE,aI,aW,bk,bS,bl,gy,gx,b5,aD,aG,Qa,aB,aC,aK,cw,cE];refine⟨.inl<|by decide,?_⟩)
 have l:(csF (zF c) w).length=w:=by rw[csF,Qd,Qt]
 rw[Qd,l];refine⟨rg R.w8,cH (λk=> .int (r2F c s k)) (λi t K k=> ?_) ?_⟩
 ·dsimp only[bI,cV,cr,aP,Qa,aM,aC,aB,bT];dsimp only[elD];dsimp only[bq,aQ,aD,aJ,Qa,aG,aC,aB,aK,bw,aN,bG,tgl,bu,bH,bv,bD,gm,cm];rw[eE (by rw[l];exact t)];dsimp only[cm,bA];refine aZ (eE<|by rw[E];exact t) ?_;dsimp only[cT];rw[z2 R s t];exact k
 ·refine⟨rfl,by decide,?_⟩;rw[dI,dI,QB,QB] at k;exact g.qr k
theorem x5(e:Env1 C (GB cb) mg mb){r s:List Int}(R:Rect c h w)(T:r.length=h)(H:s.length=w){A B:List Nat}(E:∀a∈A,a<h)(M:∀a∈B,a<w)(k:Q (.int ((A.map (r1F c r)).sum-(B.map (r2F c s)).sum)) Jc):
  aR (aO C<|n+3) "_law_gap" [(.tup [dC c,dI r,dI s],b),(dNs A,b'),(dNs B,P)] Q X:=by
 refine e.fn gM (bo 38 rfl) rfl λl u N PX g=> ?_;dsimp only[gM];dsimp only[aX,b8,bp];refine dS ?_
 (dsimp only[aL,flags,aA,aH,aY,aE,aI,aW,aD,aG,Qa,aJ,aC,aB,aK,bG,tgl,bu,bH,bv,bD,aS,bL,b9,bN];refine⟨rfl,?_⟩)
 refine g.hc<|kS e R T H ?_;dsimp only[aB,bG,tgl,bu,bH,bv,bD,aC,aF,bE,iS,aM,Qa,aP,bT];refine bK ?_
 (dsimp only[bq,bk,gz,aA,aE,b5,cT,aF];refine⟨.inl<|by decide,?_⟩)
 refine cj (.inl rfl) ?_;dsimp only[fsts,dz,aA,aH,aY,aE,aI,aW,cZ,aD,aG,Qa,aC,aB,aK,bw,bL,c4];refine bR (λ(k:Nat)=> .int (k:Int)) (λk=> .int (r1F c r k)) (λi t K k=> ?_) ?_
 ·dsimp only[bI,cV,cr,aP,Qa,aM,aC,aB,bT];dsimp only[elD];dsimp only[aQ,aD,aJ,Qa,aG,aC,aB,aK,bw];rw[eE (by rw[Qd,Qt];exact E i t),dF _ (E i t)];exact k
 refine gH (eH _ _) ?_;refine⟨.inl<|by decide,?_⟩;refine cj (.inl rfl) ?_;dsimp only[fsts,dz,aA,aH,aY,aE,aI,aW,cZ,aD,aG,Qa,aC,aB,aK,bw,bL,c4];refine bR (λ(k:Nat)=> .int (k:Int)) (λk=> .int (r2F c s k)) (λi t K k=> ?_) ?_
 ·dsimp only[bI,cV,cr,aP,Qa,aM,aC,aB,bT];dsimp only[elD];dsimp only[aQ,aD,aJ,Qa,aG,aC,aB,aK,bw];rw[eE (by rw[Qd,Qt];exact M i t),dF _ (M i t)];exact k
 refine gH (eH _ _) ?_;exact g.qr k
theorem m9(a b:D):dfld (GB cb) "rows" (.exc "NoTable" [a,b])=Ja a:=rfl
theorem mT(a b:D):dfld (GB cb) "columns" (.exc "NoTable" [a,b])=Ja b:=rfl
theorem gf(A:List Nat)(i:Nat):((A.map λ(k:Nat)=>D.int (k:Int)).any λd=>D.eqv d (.int (i:Int)))=decide (i∈A):=by
 rw[List.any_map,Kz,KS,Uj]
 constructor
 ·rintro ⟨x,hx,h⟩;have h:D.eqv (.int (x:Int)) (.int (i:Int))=Jc:=h;rw[bX,Uj] at h;rw[show i=x by exact(KH.mp h).symm];exact hx
 ·exact λt=>⟨i,t,ci _⟩
theorem vQ(e:Env1 C (GB cb) mg mb){r s:List Int}(R:Rect c h w)(f:r.length=h)(E:s.length=w){Y H:Nat->Bool}
  (l:∀p∈psF c h w,Y p.1=Jc->H p.2=Jc)(S:0<(((Qc h).filter Y).map (r1F c r)).sum-(((Qc w).filter H).map (r2F c s)).sum)(k:Q (.str "none") Jc):
  aR (aO C<|n+4) "_law_shows_none" [(.tup [dC c,dI r,dI s],b),(.exc "NoTable" [dNs ((Qc h).filter Y),dNs ((Qc w).filter H)],b')] Q X:=by
 refine e.fn c5 (bo 42 rfl) rfl λM W P PX g=> ?_;dsimp only[c5];dsimp only[aX,b8,bp];refine ca ?_
 (dsimp only[b7,br,aB,bC,aL,flags,aA,aH,aE,aI,bk,bS,aF,b5,aQ,aN,aD,aG,Qa,aJ,aC,aK,gm,cm,cw,cE,eT,gn];refine⟨rfl,?_⟩)
 refine aZ (m9 _ _) ?_
 (dsimp only[bw,aS];refine⟨.inl<|by decide,?_⟩)
 rw[Qd,f];refine g.hc<|fC e R.h8 ?_
 (dsimp only[br,ch,aC];refine⟨rfl,?_⟩)
 refine aZ (mT _ _) ?_
 (dsimp only[bw,aS];refine⟨.inl<|by decide,?_⟩)
 rw[Qd,E];refine g.hc<|fC e R.w8 ?_;dsimp only[br,ch,aC];refine d3 (.inl rfl) ?_
 (dsimp only[fsts,aA,aH,aY,aE,aI,aW,cZ,aL,flags,aD,aG,Qa,aJ,aC,aB,aK,bG,tgl,bu,bH,bv,bD,aS,bL,b9,bN];refine⟨rfl,?_⟩)
 refine g.hc<|ig e R ?_;dsimp only[c4,aB,bw,bl,bE];refine dK dP (λo0 L=>∃u v,L=(Nb "_law_view_here" b (.tup [dC c,dI r,dI s])<|Nb "_law_e" b' (.exc "NoTable" [dNs ((Qc h).filter Y),dNs ((Qc w).filter H)])<|No "_law_row" u<|No "_law_column" v<|[])) _ _ ⟨_,_,rfl⟩ ?_ ?_
 ·rintro j p L D ⟨u,v,rfl⟩ K m;have D:=QE D;obtain⟨o,U,o0⟩:=hH D;dsimp only[dP];dsimp only[gD,bu,eG,bv,dt,iS,aM,Qa,aP,aC,aB,bT];refine ca ?_;dsimp only[cf,aU,br,dX,eT,aG,Qa,aC,aB,aK,aD,iU];refine aZ (m9 _ _) ?_;rw[iT];refine⟨⟨rfl,cx _ (λa=>eO _ _) _⟩,?_⟩;rw[gf];refine cW (λN=> ?_) λN=> ?_
  ·refine aZ (mT _ _) ?_;rw[iT];refine⟨⟨rfl,cx _ (λa=>eO _ _) _⟩,?_⟩;rw[gf,Ud (Qi.mpr ⟨Qg.mpr U,l p D (Qi.mp N).2⟩)];dsimp only[ch,aC];exact m _ ⟨_,_,rfl⟩
  ·exact m _ ⟨_,_,rfl⟩
 ·rintro L ⟨u,v,rfl⟩;refine hX ?_;refine bK ?_
  (dsimp only[aQ,bk,nh,aA,aE,b5,aU,br,aN,aL,flags,aH,aI,eT,aG,Qa,aJ,aC,aB,aK,aD,bG,tgl,bu,bH,bv,bD,aS,bJ,fsts,dnew,aT,aY,aV,aW,dq,bl];refine⟨by decide,.inl<|by decide,rfl,?_⟩)
  refine aZ (m9 _ _) ?_;dsimp only[bw,aS];refine aZ (mT _ _) ?_;dsimp only[bw,aS];refine g.hc<|x5 e R f E (λa T=>Qg.mp (Qi.mp T).1) (λa T=>Qg.mp (Qi.mp T).1) ?_;dsimp only[ki];rw[Ud (show _>(0:Int) from S)];refine aZ (show dsub (.list [.str "other",.str "none"]) (.int 1)=Ja (.str "none") from rfl) ?_;dsimp only[yU,aF];exact g.qr k
end
noncomputable def upd{α u:Type}[DecidableEq α](g:α->u)(x:α)(v:u):α->u:=λy=>if y=x then v else g y
theorem b6{α u:Type}[DecidableEq α](g:α->u)(x:α)(v:u):upd g x v x=v:=Uh rfl
theorem cB{α u:Type}[DecidableEq α](g:α->u){x y:α}(v:u)(h:y≠x):upd g x v y=g y:=Ug h
theorem oA{α u t:Type}[DecidableEq α](f:u->t)(g:α->u)(x:α)(v:u):upd (λy=>f (g y)) x (f v)=λy=>f (upd g x v y):=by
 funext y;by_cases h:y=x
 ·subst h;rw[b6,b6]
 ·rw[cB _ _ h,cB _ _ h]
noncomputable abbrev md{α:Type}(kf:α->List KA)(g:α->D)(xs:List α):D:= .dict (xs.map kf) (xs.map g)
noncomputable def withx{α:Type}[DecidableEq α](xs:List α)(x:α):List α:=if x∈xs then xs else xs++[x]
section
variable{α:Type}[DecidableEq α]{kf:α->List KA}(inj:∀a b,kf a=kf b->a=b){g:α->D}
include inj
theorem lp:∀ {xs:List α},x∈xs->∃j,kidx (xs.map kf) (kf x)=Ja j/\xs[j]? =Ja x
 |y::r,h=>by
  by_cases e:y=x
  ·subst e;exact⟨0,Uh rfl,rfl⟩
  ·obtain⟨j,N,p⟩:=lp ((Qx.mp h).resolve_left λq=>e q.symm);refine⟨j+1,?_,p⟩;show(if kf y=kf x then Ja 0 else(kidx (r.map kf)<|kf x).map (· +1))=_;rw[Ug λq=>e<|inj _ _ q,N];rfl
theorem qS:∀ {xs:List α},x∉xs->kidx (xs.map kf) (kf x)=Jb
 |[]=>λo0=>rfl
 |y::r=>λh=>by
  show(if kf y=kf x then Ja 0 else(kidx (r.map kf)<|kf x).map (· +1))=_;rw[Ug λq=>h<|by rw[inj y x q];exact .head _,qS λq=>h (.tail _ q)];rfl
theorem pw{xs:List α}:(kidx (xs.map kf) (kf x)).isSome=decide (x∈xs):=by
 by_cases h:x∈xs
 ·obtain⟨j,N,o0⟩:=lp inj h;rw[N,Ud h];rfl
 ·rw[qS inj h,Ue h];rfl
theorem mJ{xs:List α}(h:x∈xs):dlook (xs.map kf) (xs.map g) (kf x)=Ja (g x):=by
 obtain⟨j,N,p⟩:=lp inj h;unfold dlook;rw[N];show(xs.map g)[j]? =_;rw[Qw,p];rfl
theorem on{xs:List α}(h:x∉xs):dlook (xs.map kf) (xs.map g) (kf x)=Jb:=by
 unfold dlook;rw[qS inj h];rfl
omit inj in
theorem map_set{xs:List α}(nd:xs.Nodup){x:α}{j:Nat}(h:xs[j]? =Ja x)(v:D):(xs.map g).set j v=xs.map (upd g x v):=by
 refine WI λi=> ?_;have H:j<xs.length:=(QI.mp h).1;rw[Wo,Qd,Uh H,Qw,Qw];by_cases e:j=i
 ·subst e;rw[Uh rfl,h];show Ja v=Ja (upd g x v x);rw[b6]
 ·rw[Ug e]
  induction t:xs[i]? with
  |none=>rfl
  |some y=>
   have:y≠x:=by
    rintro rfl;exact e<|(List.getElem?_inj H nd).mp (h.trans t.symm)
   show Ja (g y)=Ja (upd g x v y);rw[cB _ _ this]
omit inj in
theorem rI{xs:List α}{x:α}(h:x∉xs)(v:D):xs.map g++[v]=(xs++[x]).map (upd g x v):=by
 rw[QF];show _=xs.map (upd g x v)++[upd g x v x]
 rw[b6]
 congr 1
 exact Qs λy W=>(cB g v λq=>h<|by rw[<-q];exact W).symm
theorem zN{xs:List α}(nd:xs.Nodup)(v:D):dkset (xs.map kf) (xs.map g) (kf x) v=md kf (upd g x v) (withx xs x):=by
 unfold dkset withx md;by_cases h:x∈xs
 ·obtain⟨j,N,p⟩:=lp inj h;rw[N,Uh h,<-map_set nd p]
 ·rw[qS inj h,Ug h,<-rI h,QF];rfl
theorem z9{xs:List α}:dens (xs.map kf) (xs.map g) (kf x)=if x∈xs then md kf g xs else md kf (upd g x (.list [])) (xs++[x]):=by
 unfold dens;by_cases h:x∈xs
 ·rw[mJ inj h,Uh h]
 ·rw[on inj h,Ug h];unfold md;rw[<-rI h,QF];rfl
theorem cQ{d:D}(v:keyD d=Ja (kf x))(h:x∈xs):dsub (md kf g xs) d=Ja (g x):=by
 show((keyD d).bind λk=>dlook (xs.map kf) (xs.map g) k)=_;rw[v];exact mJ inj h
theorem zA{xs:List α}(nd:xs.Nodup){d v:D}(q:keyD d=Ja (kf x))(h:x∈xs):dset1 d (λo0=>Ja v) (md kf g xs)=Ja (md kf (upd g x v) xs):=by
 obtain⟨j,N,p⟩:=lp inj h;show((keyD d).bind λk=>(kidx (xs.map kf) k).bind λj=>((xs.map g)[j]?).bind λx=>Wt (λy=>D.dict (xs.map kf)<|(xs.map g).set j y)<|Ja v)=_;rw[q];show((kidx (xs.map kf)<|kf x).bind λj=>((xs.map g)[j]?).bind λx=>Wt (λy=>D.dict (xs.map kf)<|(xs.map g).set j y)<|Ja v)=_;rw[N];show(((xs.map g)[j]?).bind λx=>Wt (λy=>D.dict (xs.map kf)<|(xs.map g).set j y)<|Ja v)=_;rw[Qw,p];show Ja (D.dict (xs.map kf)<|(xs.map g).set j v)=_;rw[map_set nd p]
end
theorem jC{α:Type}[DecidableEq α]{xs:List α}(nd:xs.Nodup)(x:α):(withx xs x).Nodup:=by
 unfold withx
 split
 ·exact nd
 ·rename_i h
  exact Qv.mpr ⟨nd,Qz.mpr ⟨λq=>(bQ q),.nil⟩,λa T b R q=>h<|by rw[Qk.mp R] at q;exact q▸T⟩
theorem withx_mem{α:Type}[DecidableEq α]{xs:List α}{x y:α}:y∈withx xs x↔y∈xs\/y=x:=by
 unfold withx
 split
 ·rename_i h
  exact⟨.inl,λq=>q.elim id λq=>q▸h⟩
 ·rw[Qr,Qk]
theorem ym{α:Type}(kf:α->List KA)(g:α->D)(xs:List α):md kf g xs= .dict (xs.map kf) (xs.map g):=rfl
section
variable{G:Gx}{cl cu:DCl}{Δ:DRho}{Q:bY}{X:DSX}{r:List S}{α:Type}[DecidableEq α]{kf:α->List KA}{g:α->D}{xs:List α}
theorem t9(inj:∀a b,kf a=kf b->a=b){x:String}{k e:E}{a:α}{old:List D}{dk dv:D}(hx:Δ.get x=Ja (md kf g xs,Jc))(nd:xs.Nodup)(l:xs.length<lim)(q:keyD dk=Ja (kf a))(Y:old.length<lim)
  (S:a∈xs->g a= .list old)(o:a∉xs->old=[])
  (N:∀ (Q:DQ) (X:DX),Q dk Jb->dwe G cl k Δ Q X)(we:∀ (z:D) (Q:DQ) (X:DX),Q dv Jb->dwe G cl e (Δ.put x (z,Jc)) Q X)
  (h:dwss G cl cu r (Δ.put x (md kf (upd g a<|.list (old++[dv]))<|withx xs a,Jc)) Q X):dwss G cl cu (.expr (.meth (.sd (.loc x) k) .append [e])::r) Δ Q X:=by
 refine vh ?_;show dsd G cl .append [e] Δ (λP=>dwss G cl cu r P Q X) x k;unfold dsd;rw[hx,aK];refine⟨rfl,?_⟩;rw[ym,xx];refine N _ _ ⟨by rw[Qd];exact l,?_⟩;rw[q,nX,z9 inj];dsimp only;have f:∀ (i:α->D) (s:List α),s.Nodup->a∈s->i a= .list old->md kf (upd i a<|.list (old++[dv])) s=md kf (upd g a<|.list (old++[dv])) (withx xs a)->
   dOD (λZ=>drecv .append Z/\dwes G cl [e] (Δ.put x (md kf i s,Jc)) (λw=>tjs w=Jb/\dmeth .append (fsts w) Z λB=>dOD (λd=>dwss G cl cu r (Δ.put x (d,Jc)) Q X)<|dset1 dk (λo0=>Ja B) (md kf i s)) λo0 o0=>False) (dsub (md kf i s) dk):=λi s T m v I=>by
  rw[cQ inj q m,cm,v];refine⟨trivial,?_⟩;rw[aA];refine we _ _ _ ?_;rw[aE];refine⟨rfl,Y,?_⟩;dsimp only;rw[zA inj T q m,cm,I];exact h
 by_cases m:a∈xs
 ·rw[Uh m];exact f g xs nd m (S m)<|by unfold withx;rw[Uh m]
 ·rw[Ug m];have H:withx xs a=xs++[a]:=by unfold withx;rw[Ug m]
  refine f _ (xs++[a]) (H▸jC nd a) (Qe _<|.head _) (by rw[b6,o m]) ?_;rw[H]
  congr 1
  funext y;by_cases W:y=a
  ·subst W;rw[b6,b6]
  ·rw[cB _ _ W,cB _ _ W,cB _ _ W]
theorem lL(inj:∀a b,kf a=kf b->a=b)(hx:Δ.get x=Ja (md kf g xs,Jc))(nd:xs.Nodup)(l:xs.length<lim)(q:keyD dk=Ja (kf a))
  (we:∀ (Q:D->DRho->Prop),Q dv Δ->dwm G cl e Δ Q)(w:∀ (Q:DQ) (X:DX),Q dk Jb->dwe G cl k Δ Q X)
  (h:dwss G cl cu r (Δ.put x (md kf (upd g a dv)<|withx xs a,Jc)) Q X):dwss G cl cu (.setIdx (.loc x) k e::r) Δ Q X:=by
 refine rO<|we _ ?_;rw[nM,hx,aK];refine⟨rfl,w _ _ ?_⟩;rw[ym,BQ];refine⟨by rw[Qd];exact l,?_⟩;rw[q,nX,zN inj nd];show dOE _ (Δ.get x);rw[hx,aK];exact h
end
set_option genInjectivity true in
inductive Nd where
 |r(i:Nat)
 |c(j:Nat)
 deriving DecidableEq
abbrev Pl:=Nat×Nat
noncomputable def Nd.key:Nd->List KA
 | .r i=>[.t "row",.n i]
 | .c j=>[.t "column",.n j]
noncomputable def dN:Nd->D
 | .r i=> .tup [.str "row",.int i]
 | .c j=> .tup [.str "column",.int j]
noncomputable def pkey(p:Pl):List KA:=[.n p.1,.n p.2]
theorem gk(x:Nd):keyD (dN x)=Ja x.key:=by rcases x with⟨⟩<;>rfl
theorem c3(p:Pl):keyD (dP p)=Ja (pkey p):=rfl
theorem dl:∀a b:Nd,a.key=b.key->a=b
 | .r i,.r j=>λh=>by injection h with _ h;injection h with h;injection h with h;rw[KH.mp h]
 | .c i,.c j=>λh=>by injection h with _ h;injection h with h;injection h with h;rw[KH.mp h]
 | .r i,.c j=>λh=>by injection h with h;injection h with h;exact absurd h<|by decide
 | .c i,.r j=>λh=>by injection h with h;injection h with h;exact absurd h<|by decide
theorem ce(a b:Pl)(h:pkey a=pkey b):a=b:=by
 injection h with h1 h;injection h1 with h1;injection h with h2;injection h2 with h2;exact Prod.ext (KH.mp h1)<|KH.mp h2
def dE(e:Nd×Pl):D:= .tup [dN e.1,dP e.2]
noncomputable def nbrs(ps:List Pl):Nd->List (Nd×Pl)
 | .r i=>(ps.filter λp=>decide (p.1=i)).map λp=>(.c p.2,p)
 | .c j=>(ps.filter λp=>decide (p.2=j)).map λp=>(.r p.1,p)
def nearG(ps:List Pl)(x:Nd):D:= .list ((nbrs ps x).map dE)
theorem eK(x:Nd):(dN x).atom=Jc:=by rcases x with⟨⟩<;>rfl
theorem lY(ps:List Pl)(p:Pl)(x:Nd):nbrs (ps++[p]) x=nbrs ps x++(if x= .r p.1 then [(.c p.2,p)] else if x= .c p.2 then [(.r p.1,p)] else []):=by
 induction x with
 |r i=>
  show KM _ (Wd _ _)=_;rw[List.filter_append,QF];by_cases h:p.1=i
  ·subst h;rw[Uh rfl,Kt (by simp)];rfl
  ·rw[Ug (λq=>h (Nd.r.inj q).symm),Ug (λq=>nomatch q),Ku (by simpa using h)];rfl
 |c j=>
  show KM _ (Wd _ _)=_;rw[List.filter_append,QF];by_cases h:p.2=j
  ·subst h;rw[Ug (λq=>nomatch q),Uh rfl,Kt (by simp)];rfl
  ·rw[Ug (λq=>nomatch q),Ug<|λq=>h (Nd.c.inj q).symm,Ku (by simpa using h)];rfl
theorem uI(ps:List Pl)(x:Nd):(nbrs ps x).length<=ps.length:=by
 induction x with
 |r i=>show(KM _ _).length<=_;rw[Qd];exact KY _ _
 |c i=>show(KM _ _).length<=_;rw[Qd];exact KY _ _
structure NearX(ps:List Pl)(xs:List Nd):Prop where
 nd:xs.Nodup
 len:xs.length<=2*ps.length
 out:∀x,x∉xs->nbrs ps x=[]
theorem jL{α:Type}[DecidableEq α](xs:List α)(x:α):(withx xs x).length<=xs.length+1:=by
 unfold withx
 split
 ·exact WG _
 ·rw[QJ];exact QA _
theorem NearX.snoc{ps:List Pl}{xs:List Nd}(h:NearX ps xs)(p:Pl):NearX (ps++[p]) (withx (withx xs (.r p.1)) (.c p.2)):=by
 refine⟨jC (jC h.nd _) _,?_,λx hx=> ?_⟩
 ·have N:=jL (withx xs<|.r p.1)<|.c p.2;have Y:=jL xs<|.r p.1;have J:=h.len;rw[QJ,WK];exact zle N<|KP (zle Y<|KP J)
 ·rw[withx_mem,withx_mem,not_or,not_or] at hx;rw[lY,h.out x hx.1.1,Ug hx.1.2,Ug hx.2];rfl
theorem ss(ps:List Pl)(p:Pl):upd (upd (nearG ps) (.r p.1) (.list ((nbrs ps (.r p.1)).map dE++[dE (.c p.2,p)]))) (.c p.2) (.list ((nbrs ps (.c p.2)).map dE++[dE (.r p.1,p)]))=nearG (ps++[p]):=by
 funext x;unfold nearG;rw[lY,QF];by_cases Y:x= .c p.2
 ·subst Y;rw[b6,Ug (λq=>nomatch q),Uh rfl];rfl
 ·rw[cB _ _ Y];by_cases h:x= .r p.1
  ·subst h;rw[b6,Uh rfl];rfl
  ·rw[cB _ _ h,Ug h,Ug Y,Wm,QO]
section
variable{C:Cx}{mg mb:Jq->Option Jf}{n:Nat}{Q:D->Bool->Prop}{X:DX}
theorem t8(e:Env1 C G1 mg mb){ps:List Pl}(D:ps.length<=64){b:Bool}(k:∀xs,NearX ps xs->Q (md Nd.key (nearG ps) xs) Jc):aR (aO C (n+1)) "near_of" [(.list (ps.map dP),b)] Q X:=by
 refine e.fn iA (bo 0 rfl) rfl λcl cu P PX F=> ?_;dsimp only[iA];dsimp only[aX,b8,bp];refine bt ?_
 (dsimp only[j9,bE,aF,aM,Qa,aP,aC,aB];refine⟨rfl,?_⟩)
 refine d3 (.inl rfl) ?_;dsimp only[fsts,aA,aH,aY,aE,aI,aW,cZ,aD,aG,Qa,aJ,aC,aB,aK,bw,bL,je,jI,jv,jQ,bH,bD,jJ,eg,jN,et,jl,jD,c4];refine dK dP (λi Δ=>X3 λv xs c=>NearX (ps.take i) xs/\Δ=(Nb "places" c (.list<|ps.map dP)<|Nb "found" Jc (md Nd.key (nearG<|ps.take i) xs)<|No "place" v<|[])) _ _ ⟨_,[],_,⟨.nil,QY _,λx o0=>by rcases x with⟨⟩<;>rfl⟩,rfl⟩ ?_ ?_
 ·rintro j p Δ H ⟨v,xs,c,N,rfl⟩ K m;have E:ps.take (j+1)=ps.take j++[p]:=by rw[List.take_add_one,H];rfl
  have l:(ps.take j).length<=64:=by rw[List.length_take];exact zle (Yt _ _) D
  have h:=N.len;generalize ps.take j=s at N E l h ⊢;have R:∀x,((nbrs s x).map dE).length<lim:=λx=>by rw[Qd];exact c9 (by have:=uI s x;exact zb1 (zle this l) rfl)
  dsimp only[cr,aM,Qa,aP,aB,aC,bT];refine t9 dl (a:= .r p.1) (g:=nearG s) (xs:=xs) (dk:=dN<|.r p.1) (dv:=dE (.c p.2,p)) (old:=(nbrs s<|.r p.1).map dE) rfl N.nd (c9<|by exact zb1 (zle h<|WP 2 l) rfl) (gk _) (R _) (λo0=>rfl) (λq=>by rw[N.out _ q];rfl) (λQ X q=> ?_) (λd Q X q=> ?_) ?_
  ·dsimp only[dP];dsimp only[gD,bu,eG,bv,dt,bM,fsts,dtup,aA,aH,aT,aY,aE,aI,aV,aW,aQ,aN,aD,aG,Qa,aB,aC,aK,bG,tgl,e8,cm,bA,bl,cg];refine gY ?_
   (dsimp only[bl];refine⟨by decide,?_⟩)
   exact q
  ·dsimp only[dP];dsimp only[gD,bu,eG,bv,dt,aM,Qa,aC,aB,bM,fsts,dtup,aA,aH,aT,aY,aE,aI,aV,aW,aD,aG,aK,bG,tgl,bl,aQ,aN,fP,cm,bA,cg];refine gj ?_
   (dsimp only[bl];refine⟨by decide,by decide,?_⟩)
   exact q
  dsimp only[aM,Qa,aC,aB];have Y:=jL xs<|.r p.1;refine t9 dl (a:= .c p.2) (dk:=dN<|.c p.2) (dv:=dE (.r p.1,p)) (old:=(nbrs s<|.c p.2).map dE) rfl (jC N.nd _) (c9<|by exact zb1 (zle Y<|KP (zle h<|WP 2 l)) rfl) (gk _) (R _) (λo0=>cB (nearG s) (y:=Nd.c p.2) _ (λq=>nomatch q)) (λq=>by rw[N.out _ λz=>q (withx_mem.mpr<|.inl z)];rfl) (λQ X q=> ?_) (λd Q X q=> ?_) ?_
  ·dsimp only[dP];dsimp only[gD,bu,eG,bv,dt,bM,fsts,dtup,aA,aH,aT,aY,aE,aI,aV,aW,aQ,aN,aD,aG,Qa,aB,aC,aK,bG,tgl,fP,cm,bA,bl,cg];refine gj ?_
   (dsimp only[bl];refine⟨by decide,?_⟩)
   exact q
  ·dsimp only[dP];dsimp only[gD,bu,eG,bv,dt,aM,Qa,aC,aB,bM,fsts,dtup,aA,aH,aT,aY,aE,aI,aV,aW,aD,aG,aK,bG,tgl,bl,aQ,aN,e8,cm,bA,cg];refine gY ?_
   (dsimp only[bl];refine⟨by decide,by decide,?_⟩)
   exact q
  dsimp only[aM,Qa,aC,aB];rw[ss];exact m _ ⟨_,_,_,E▸N.snoc p,by rw[E];rfl⟩
 ·rintro Δ ⟨v,xs,c,N,rfl⟩;rw[KR] at N;refine df ?_;rw[KR]
  (dsimp only[cA,aM,Qa,aP,aC,aB,aG,aJ,aK,eg];refine⟨rfl,?_⟩)
  exact F.qr<|k xs N
end
theorem tK{L:Type}[DecidableEq L]:∀ {xs ys:List L},xs.Nodup->(∀x∈xs,x∈ys)->xs.length<=ys.length:=λ{xs}=>by
 induction xs with
 |nil=>exact λ{ys} _ _=>QY _
 |cons x xs i=>
  intro ys nd h;obtain⟨n,z⟩:=Qz.mp nd;have hx:=h x<|.head _;have:=i (ys:=ys.erase x) z λy W=>(List.mem_erase_of_ne<|λ(q:y=x)=>n<|q▸W).mpr (h y<|.tail _ W);rw[List.length_erase_of_mem hx] at this;exact Nat.add_le_of_le_sub (List.length_pos_of_mem hx) this
abbrev Par:=Nd->Option (Nd×Pl)
abbrev Bs:=List Nd×Par
noncomputable def Nd.isR:Nd->Bool
 | .r _=>Jc
 | .c _=>Jd
noncomputable def okE(x:Pl->Int)(z:Nd)(p:Pl):Bool:=z.isR||decide (x p>0)
def stp(x:Pl->Int)(z:Nd)(s:Bs)(e:Nd×Pl):Bs:=if e.1∉s.1/\okE x z e.2=Jc then(s.1++[e.1],upd s.2 e.1<|Ja (z,e.2)) else s
noncomputable def bfsO(s:Bs)(f:Nd->Bs):Option Nd->Bs
 |some z=>f z
 |none=>s
noncomputable def bfs(ps:List Pl)(x:Pl->Int):Nat->Nat->Bs->Bs
 |0,_,s=>s
 |k+1,i,s=>bfsO s (λz=>bfs ps x k (i+1) ((nbrs ps z).foldl (stp x z) s)) s.1[i]?
theorem tv(ps:List Pl)(x:Pl->Int)(k i:Nat)(s:Bs):bfs ps x (k+1) i s=bfsO s (λz=>bfs ps x k (i+1) ((nbrs ps z).foldl (stp x z) s)) s.1[i]? :=rfl
noncomputable def allN(h w:Nat):List Nd:=(Qc h).map .r++(Qc w).map .c
structure Bfs(ps:List Pl)(x:Pl->Int)(st:List Nd)(h w:Nat)(s:Bs):Prop where
 nd:s.1.Nodup
 val:∀y∈s.1,y∈allN h w
 has:∀y∈st,y∈s.1
 par:∀ (j:Nat) (y:Nd),s.1[j]? =Ja y->(s.2 y=Jb/\y∈st)\/X3 λ(z:Nd) (p:Pl) (i:Nat)=>A5 (s.2 y=Ja (z,p)) (i<j) (s.1[i]? =Ja z) ((y,p)∈nbrs ps z)<|okE x z p=Jc
theorem Bfs.len{x:Pl->Int}{s:Bs}(b:Bfs ps x st h w s):s.1.length<=h+w:=by
 have:=tK b.nd b.val
 rwa [allN,QJ,Qd,Qd,Qt,Qt] at this
def Clo(ps:List Pl)(x:Pl->Int)(n:Nat)(s:Bs):Prop:=∀i z,i<n->s.1[i]? =Ja z->∀e∈nbrs ps z,okE x z e.2=Jc->e.1∈s.1
theorem rK(x:Pl->Int)(z:Nd)(s:Bs)(e:Nd×Pl):s.1<+:(stp x z s e).1:=by
 unfold stp
 split
 ·exact List.prefix_append _ _
 ·exact List.prefix_refl _
theorem ju(x:Pl->Int)(z:Nd):∀ (es:List (Nd×Pl)) (s:Bs),s.1<+:(es.foldl (stp x z) s).1
 |[]=>λs=>List.prefix_refl _
 |e::es=>λs=>(rK x z s e).trans (ju x z es _)
theorem uG(x:Pl->Int)(z:Nd):∀ (es:List (Nd×Pl)) (s:Bs),∀e∈es,okE x z e.2=Jc->e.1∈(es.foldl (stp x z) s).1:=λes=>by
 induction es with
 |nil=>exact λs f j=>bQ j
 |cons e es i=>
  intro s f j o
  rcases Qx.mp j with rfl|j
  ·refine(ju x z es _).subset ?_;unfold stp;by_cases q:f.1∉s.1/\okE x z f.2=Jc
   ·rw[Uh q];exact Qe _<|.head _
   ·rw[Ug q];exact Classical.byContradiction λw=>q ⟨w,o⟩
  ·exact i _ f j o
theorem rM{L:Type}{l m:List L}(h:l<+:m){i:Nat}{a:L}(e:l[i]? =Ja a):m[i]? =Ja a:=by
 obtain⟨t,rfl⟩:=h;rw[Wq (QI.mp e).1];exact e
theorem rF(D:∀p∈ps,p.1<h/\p.2<w){z:Nd}{e:Nd×Pl}(O:e∈nbrs ps z):e.2∈ps/\e.1∈allN h w:=by
 induction z with
 |r i=>
  obtain⟨p,N,rfl⟩:=Ql.mp O;have N:=(Qi.mp N).1;exact⟨N,Qe _<|Ql.mpr ⟨_,Qg.mpr (D p N).2,rfl⟩⟩
 |c j=>
  obtain⟨p,N,rfl⟩:=Ql.mp O;have N:=(Qi.mp N).1;exact⟨N,Qj _<|Ql.mpr ⟨_,Qg.mpr (D p N).1,rfl⟩⟩
section
variable{ps:List Pl}{x:Pl->Int}{st:List Nd}{h w:Nat}
theorem Bfs.stp(D:∀p∈ps,p.1<h/\p.2<w){s:Bs}(b:Bfs ps x st h w s){z:Nd}{i:Nat}(hz:s.1[i]? =Ja z){e:Nd×Pl}(O:e∈nbrs ps z):Bfs ps x st h w (stp x z s e):=by
 unfold Vl.Internal.stp;by_cases q:e.1∉s.1/\okE x z e.2=Jc
 ·rw[Uh q];refine⟨?_,λy W=> ?_,λy W=>Qj _<|b.has y W,λj y H=> ?_⟩
  ·exact Qv.mpr ⟨b.nd,Qz.mpr ⟨λq=>(bQ q),.nil⟩,λa T c Z r=>q.1<|by rw[Qk.mp Z] at r;exact r▸T⟩
  ·rcases Qr.mp W with W|W
   ·exact b.val y W
   ·rw[Qk.mp W];exact(rF D O).2
  ·have l:i<s.1.length:=(QI.mp hz).1
   rcases Nat.lt_or_ge j s.1.length with M|M
   ·rw[Wq M] at H;have W:y≠e.1:=λr=>q.1 (r▸QE H)
    rcases b.par j y H with⟨N,Y⟩|⟨A,p,G,N,Y,J,C,B⟩
    ·exact .inl ⟨(cB s.2 _ W).trans N,Y⟩
    ·exact .inr ⟨A,p,G,(cB s.2 _ W).trans N,Y,by rw[Wq (by exact Nat.lt_trans Y M)];exact J,C,B⟩
   ·rw[WO M] at H;have:j-s.1.length=0:=by
     rcases Nat.eq_zero_or_pos (j-s.1.length) with r|r
     ·exact r
     ·rw[KX (show [e.1].length<=_ from r)] at H;exact ns H
    rw[this] at H;obtain rfl:=sj H;exact .inr ⟨z,e.2,i,b6 _ _ _,by exact zll l M,by rw[Wq l];exact hz,O,q.2⟩
 ·rw[Ug q];exact b
theorem Bfs.fold(D:∀p∈ps,p.1<h/\p.2<w){z:Nd}{i:Nat}:∀ (es:List (Nd×Pl)) {s:Bs},Bfs ps x st h w s->s.1[i]? =Ja z->(∀e∈es,e∈nbrs ps z)->Bfs ps x st h w (es.foldl (Vl.Internal.stp x z) s):=λes=>by
 induction es with
 |nil=>exact λb o0 o0=>b
 |cons e es W=>exact λ{s} b v O=>W (b.stp D v (O e (.head _))) (rM (rK x z s e) v) λf j=>O f<|.tail _ j
theorem qo(D:∀p∈ps,p.1<h/\p.2<w)(X:h+w<=16):∀ (k i:Nat) (s:Bs),Bfs ps x st h w s->Clo ps x i s->i<=s.1.length->16<i+k->Bfs ps x st h w (bfs ps x k i s)/\∀z∈(bfs ps x k i s).1,∀e∈nbrs ps z,okE x z e.2=Jc->e.1∈(bfs ps x k i s).1
 |0=>λi s b o0 t g=>by have:=b.len;exact absurd g<|Kd.mpr (zle t<|zle this X)
 |k+1=>λi s b c t g=>by
  rw[tv]
  induction e:s.1[i]? with
  |none=>
   have:s.1.length<=i:=WT.mp e;show Bfs ps x st h w s/\∀z∈s.1,_;refine⟨b,λz v f W o=> ?_⟩;obtain⟨j,H⟩:=Wr v;exact c j z (zll (QI.mp H).1 this) H f W o
  |some z=>
   have r:=ju x z (nbrs ps z) s;have l:i<s.1.length:=(QI.mp e).1;refine qo D X k (i+1) _ (Bfs.fold D _ b e λf W=>W) (λj y H S f W o=> ?_) (zle l r.length_le)<|Nat.lt_of_lt_of_eq g (QP i 1 k).symm;have M:j<s.1.length:=by exact zl (zs H) l
   have R:s.1[j]? =Ja y:=by
    have J:=rM r<|Qf M;rw[Qf M,<-J];exact S
   by_cases q:j=i
   ·subst q;obtain rfl:=sj<|e.symm.trans R;exact uG x z _ _ f W o
   ·exact r.subset<|c j y (by exact Nat.lt_of_le_of_ne (zs H) q) R f W o
end
theorem gK{tst:DRho->(Bool->Prop)->Prop}{body:DRho->bY->Prop}(I:Nat->DRho->Prop)
  (h:∀ (k:Nat) (L:DRho),I k L->∀K:DRho->Prop,(∀j P,j<k->I j P->K P)->tst L λb=>cond b (body L<|donFl K Q)<|Q .next L):∀ (n k:Nat) (L:DRho),k<n->I k L->dwhGo tst body Q n L
 |0=>λk o0 q o0=>absurd q<|Wn _
 |n+1=>λk L q i=>h k L i (λJ=>dwhGo tst body Q n J) λj P H w=>gK I h n j P (QX H<|Nat.le_of_lt_succ q) w
def dV:Option (Nd×Pl)->D
 |none=> .none
 |some e=> .tup [dN e.1,dP e.2]
abbrev dCm(s:Bs):D:=md Nd.key (λy=>dV (s.2 y)) s.1
abbrev dCt(ps:List Pl)(x:Pl->Int):D:=md pkey (λp=> .int (x p)) ps
noncomputable def Nd.wd:Nd->String
 | .r _=>"row"
 | .c _=>"column"
noncomputable def Nd.no:Nd->Nat
 | .r i=>i
 | .c i=>i
theorem rn(z:Nd):dsub (dN z) (.int 0)=Ja (.str z.wd):=by rcases z with⟨⟩<;>rfl
theorem qW(z:Nd):dsub (dN z) (.int 1)=Ja (.int z.no):=by rcases z with⟨⟩<;>rfl
theorem Bd(z:Nd):dN z= .tup [.str z.wd,.int z.no]:=by rcases z with⟨⟩<;>rfl
theorem nK:D.okd 40 (.str "row")=Jc:=by decide+kernel
theorem nJ:D.okd 40 (.str "column")=Jc:=by decide+kernel
theorem yR:D.eqv (.str "row") (.str "row")=Jc:=ci _
theorem zG:D.eqv (.str "column") (.str "column")=Jc:=ci _
theorem Am:D.eqv (.str "row") (.str "column")=Jd:=by decide+kernel
theorem zb:D.eqv (.str "column") (.str "row")=Jd:=by decide+kernel
theorem qg(z:Nd):D.okd 40 (.str z.wd)=Jc:=by
 induction z with
 |r i=>exact nK
 |c i=>exact nJ
theorem rN(z:Nd):D.eqv (.str z.wd) (.str "row")=z.isR:=by
 induction z with
 |r i=>exact yR
 |c i=>exact zb
theorem rC(z:Nd):D.eqv (.str z.wd) (.str "column")= !z.isR:=by
 induction z with
 |r i=>exact Am
 |c i=>exact zG
theorem jb(p:Pl):D.okd 40 (dP p)=Jc:=rfl
theorem pe{L:Type}[DecidableEq L]{xs:List L}{x:L}(h:x∉xs):withx xs x=xs++[x]:=Ug h
theorem vC{s:Bs}{a:Nd}(h:a∉s.1)(v:Option (Nd×Pl)):md Nd.key (upd (λy=>dV (s.2 y)) a (dV v)) (withx s.1 a)=dCm (s.1++[a],upd s.2 a v):=by
 rw[pe h,oA dV s.2 a v]
theorem iz{L:Type}{l:List L}{j:Nat}{a:L}(h:l[j]? =Ja a):l.take (j+1)=l.take j++[a]:=by rw[List.take_add_one,h];rfl
theorem rA{L:Type}{l:List L}(nd:l.Nodup){j:Nat}{a:L}(h:l[j]? =Ja a):a∉l.take j:=λq=>by
 have:=nd.sublist<|List.take_sublist (j+1) l;rw[iz h] at this;exact(Qv.mp this).2.2 a q a (.head _) rfl
theorem yF{x:Pl->Int}{s:Bs}{z:Nd}(h:s.1[i]? =Ja z):bfs ps x (k+1) i s=bfs ps x k (i+1) ((nbrs ps z).foldl (stp x z) s):=by
 rw[tv,h];rfl
theorem ww{x:Pl->Int}{s:Bs}(h:s.1.length<=i):bfs ps x k i s=s:=by
 induction k using Nat.casesOn with
 |zero=>rfl
 |succ k=>
  rw[tv,KX h];rfl
theorem jT{L u:Type}(f:u->L->u)(s:u){l:List L}{j:Nat}{a:L}(h:l[j]? =Ja a):(l.take (j+1)).foldl f s=f ((l.take j).foldl f s) a:=by
 rw[iz h,List.foldl_append];rfl
def bfsF(ps:List Pl)(x:Pl->Int)(st:List Nd):Bs:=bfs ps x 17 0 (st,λo0=>Jb)
theorem Bfs.start{x:Pl->Int}{st:List Nd}(nd:st.Nodup)(hv:∀y∈st,y∈allN h w):Bfs ps x st h w (st,λo0=>Jb):=
 ⟨nd,hv,λy W=>W,λj y H=> .inl ⟨rfl,QE H⟩⟩
noncomputable def bn(ban:Option Pl)(ps:List Pl):List Pl:=ps.filter λq=> !decide (ban=Ja q)
def dBn:Option Pl->D
 |none=> .none
 |some p=>dP p
theorem xB(ps:List Pl):bn Jb ps=ps:=List.filter_eq_self.mpr λq o0=>by rw[Ue (λz=>ns z)];rfl
theorem bn_mem:q∈bn ban ps↔q∈ps/\ban≠Ja q:=by
 rw[bn,Qi];exact and_congr_right λo0=>⟨λh z=>by rw[Ud z] at h;exact ft h,λh=>by rw[Ue h];rfl⟩
theorem xF(ban:Option Pl):D.okd 40 (dBn ban)=Jc:=by rcases ban with⟨⟩<;>rfl
theorem pU(p q:Pl):D.eqv (dP p) (dP q)=decide (p=q):=by
 show D.eqv (.tup [_,_]) (.tup [_,_])=_;rw[Bq,bX,bX,Kz,QL,Uj,Uj,Uj];exact⟨λh=>Prod.ext (KH.mp h.1)<|KH.mp h.2,λh=>h▸⟨rfl,rfl⟩⟩
theorem w0(p:Pl)(ban:Option Pl):D.eqv (dP p) (dBn ban)=decide (ban=Ja p):=by
 induction ban with
 |none=>rw[Ue (λz=>ns z)];rfl
 |some q=>exact(pU p q).trans (decide_eq_decide.mpr ⟨λh=>h▸rfl,λh=>(sj h).symm⟩)
theorem nP(ban:Option Pl)(ps:List Pl)(z:Nd):nbrs (bn ban ps) z=(nbrs ps z).filter λe=> !decide (ban=Ja e.2):=by
 induction z with
 |r i=>
  show KM _ (Wd _<|Wd _ _)=Wd _ (KM _<|Wd _ _);rw[List.filter_map,WZ,WZ];refine Uk _ (List.filter_congr λq o0=> ?_);exact Bool.and_comm _ _
 |c i=>
  show KM _ (Wd _<|Wd _ _)=Wd _ (KM _<|Wd _ _);rw[List.filter_map,WZ,WZ];refine Uk _ (List.filter_congr λq o0=> ?_);exact Bool.and_comm _ _
def stpB(ban:Option Pl)(x:Pl->Int)(z:Nd)(s:Bs)(e:Nd×Pl):Bs:=if !decide (ban=Ja e.2) then stp x z s e else s
theorem rt(ban:Option Pl)(x:Pl->Int)(z:Nd)(s:Bs)(l:List (Nd×Pl)):l.foldl (stpB ban x z) s=(l.filter λe=> !decide (ban=Ja e.2)).foldl (stp x z) s:=List.foldl_filter.symm
noncomputable def whB(f:Fn):List S:=match (f.b[4]? :Option S) with
 |some (.while_ _ [_,_,.for_ _ _ _ b])=>b
 |_=>[]
section
variable{C:Cx}{mg mb:Jq->Option Jf}{n:Nat}{Q:D->Bool->Prop}{X:DX}
theorem Au{A W:DCl}{ban:Option Pl}{ps:List Pl}{x:Pl->Int}{st:List Nd}{h w:Nat}(U:∀p∈ps,p.1<h/\p.2<w){s:Bs}{z:Nd}{i:Nat}(b:Bfs (bn ban ps) x st h w s)(hz:s.1[i]? =Ja z)(m:h+w<=16){Z V c E:Bool}{Y M u2 u3:Option (D×Bool)}{d1 d:D}{Kp:bY}
  (hK:∀u v,Kp .next (Nb "near" Z d1<|Nb "counts" V (dCt ps x)<|Nb "starts" c d<|Nb "banned" E (dBn ban)<|Nb "came" Jc (dCm<|(nbrs (bn ban ps) z).foldl (stp x z) s)<|Nb "waiting" Jc (.list<|((nbrs (bn ban ps) z).foldl (stp x z) s).1.map dN)<|No "start" M<|No "at" Y<|Nb "here" Jc (dN z)<|No "other" u<|No "place" v<|[])):
  fH (.tup ["other","place"]) (λL K=>dwss G1 A W (whB fE) L K λo0 o0 o0=>False) Kp ((nbrs ps z).map dE)
   (Nb "near" Z d1<|Nb "counts" V (dCt ps x)<|Nb "starts" c d<|Nb "banned" E (dBn ban)<|Nb "came" Jc (dCm s)<|Nb "waiting" Jc (.list<|s.1.map dN)<|No "start" M<|No "at" Y<|Nb "here" Jc (dN z)<|No "other" u2<|No "place" u3<|[]):=by
 have tz:∀y t,tg0 (dN y) t=Jb:=λy t=>by unfold tg0;rw[eK];rfl
 have tp:∀y t,tg0 (dP y) t=Jb:=λy t=>rfl;refine dK dE (λj L=>∃u v,L=(Nb "near" Z d1<|Nb "counts" V (dCt ps x)<|Nb "starts" c d<|Nb "banned" E (dBn ban)<|Nb "came" Jc (dCm<|((nbrs ps z).take j).foldl (stpB ban x z) s)<|Nb "waiting" Jc (.list<|(((nbrs ps z).take j).foldl (stpB ban x z) s).1.map dN)<|No "start" M<|No "at" Y<|Nb "here" Jc (dN z)<|No "other" u<|No "place" v<|[])) _ _ ⟨_,_,rfl⟩ ?_ ?_
 ·rintro j f L F ⟨u,v,rfl⟩ K k;have hm:=QE F;have e:Bfs (bn ban ps) x st h w (((nbrs ps z).take j).foldl (stpB ban x z) s):=by
   rw[rt];refine b.fold (λp B=>U p (bn_mem.mp B).1) _ hz λg hg=> ?_;rw[nP];exact Qi.mpr ⟨List.mem_of_mem_take (Qi.mp hg).1,(Qi.mp hg).2⟩
  have l:=e.len;rw[jT (stpB ban x z) s F] at k;generalize ((nbrs ps z).take j).foldl (stpB ban x z) s=t at e k l ⊢;obtain⟨o,p⟩:=f;have H:=(rF U hm).1;dsimp only[dE,whB,fE];dsimp only[gD,bu,bv,iS,aM,Qa,aP,aC,aB,bT];refine ca ?_;dsimp only[cf,b7,br,aB,aU,aN,aQ,aD,aG,Qa,aJ,aC,aK,cM,deq,cg,d4,dX];rw[uD,gk,nX,pw dl,eK,fx];dsimp only[dt];refine lU (λN=> ?_) λN=> ?_
  ·refine⟨⟨jb p,xF ban⟩,?_⟩;rw[w0];refine lU (λR=> ?_) λR=> ?_
   rotate_left
   ·rw[show stpB ban x z t (o,p)=t from Ug (by rw[Ud R];exact QC)] at k;exact k _ ⟨_,_,rfl⟩
   rw[show stpB ban x z t (o,p)=stp x z t (o,p) from Uh (by rw[Ue R];rfl)] at k;refine aZ (rn _) ?_;refine gY ?_;refine⟨⟨qg z,nK⟩,?_⟩;rw[rN];have I:okE x z p=Jc->∀ (r:List S) (X:DSX) (J:bY),(∀P,(∃u v,P=(Nb "near" Z d1<|Nb "counts" V (dCt ps x)<|Nb "starts" c d<|Nb "banned" E (dBn ban)<|Nb "came" Jc (dCm<|stp x z t (o,p))<|Nb "waiting" Jc (.list<|(stp x z t (o,p)).1.map dN)<|No "start" M<|No "at" Y<|Nb "here" Jc (dN z)<|No "other" u<|No "place" v<|[]))->J .next P)->
     dwss G1 A W [.setIdx (.loc "came") (.loc "other") (.tup [.loc "here",.loc "place"]),.expr (.meth (.loc "waiting") .append [.loc "other"])] (Nb "near" Z d1<|Nb "counts" V (dCt ps x)<|Nb "starts" c d<|Nb "banned" E (dBn ban)<|Nb "came" Jc (dCm t)<|Nb "waiting" Jc (.list<|t.1.map dN)<|No "start" M<|No "at" Y<|Nb "here" Jc (dN z)<|Nb "other" Jc (dN o)<|Nb "place" Jc (dP p)<|[]) J X:=λho r X J G=>by
    have hs:stp x z t (o,p)=(t.1++[o],upd t.2 o<|Ja (z,p)):=Uh ⟨N,ho⟩;rw[hs] at G;refine lL dl (a:=o) (g:=λy=>dV<|t.2 y) (xs:=t.1) (dk:=dN o) (dv:=dV<|Ja (z,p)) rfl e.nd (c9<|by exact zb1 (zle l m) rfl) (gk _) (λQ q=> ?_) (λQ X q=> ?_) ?_
    ·dsimp only[e9,dJ,aT,eX,aV,cA,aM,Qa,aP,aB,aC,aG,aJ,aK];rw[eK,fx]
     (dsimp only[aB];refine⟨by decide,?_⟩)
     exact q
    ·dsimp only[aD,aG,Qa,aJ,aC,aB,aK];rw[tz];exact q
    ·dsimp only[aM,Qa,aP,aC,aB];refine jj ?_
     (dsimp only[aG,Qa,aJ,aC,aB,aK,dz,cA,aM,aP];refine⟨trivial,?_⟩)
     rw[eK]
     (dsimp only[aB];refine⟨rfl,?_⟩)
     refine⟨by rw[Qd];exact c9<|by exact zb1 (zle l m) rfl,G _ ⟨Ja (dN o,Jc),Ja (dP p,Jc),?_⟩⟩;rw[vC N,QF];rfl
   refine iF (λT=> ?_) λT=> ?_
   ·exact I (by unfold okE;rw[T];rfl) [] _ _ λP q=>k P q
   ·refine aZ (cQ ce (c3 p) H) ?_;dsimp only[ki];refine cW (λhx=> ?_) λhx=> ?_
    ·exact I (by unfold okE;rw[T];exact Ud hx) [] _ _ λP q=>k P q
    ·rw[show stp x z t (o,p)=t from Ug λq=>by
      have O:(z.isR||decide (x p>0))=Jc:=q.2;rw[T,Ue hx] at O;exact ft O] at k
     exact k _ ⟨_,_,rfl⟩
  ·rw[show stpB ban x z t (o,p)=t by rw[stpB,show stp x z t (o,p)=t from Ug λq=>q.1 N,ite_self]] at k;exact k _ ⟨_,_,rfl⟩
 ·rintro L ⟨u,v,rfl⟩;rw[KR,rt,<-nP];exact hK u v
theorem jU(e:Env1 C G1 mg mb){ban:Option Pl}{ps:List Pl}{x:Pl->Int}{ns st:List Nd}{h w:Nat}(N:NearX ps ns)(S:∀p∈ps,p.1<h/\p.2<w)(O:h<=8)(U:w<=8)(nd:st.Nodup)(hv:∀y∈st,y∈allN h w){M V b3 Y:Bool}(kq:Q (dCm (bfsF (bn ban ps) x st)) Jc):
  aR (aO C<|n+1) "reached" [(md Nd.key (nearG ps) ns,M),(dCt ps x,V),(.list<|st.map dN,b3),(dBn ban,Y)] Q X:=by
 refine e.fn fE (bo 1 rfl) rfl λcl cu PQ PX gg=> ?_;dsimp only[fE];dsimp only[aX,b8,bp];refine bt ?_
 (dsimp only[j9,bE,aF,aM,Qa,aP,aC,aB];refine⟨rfl,?_⟩)
 refine bt ?_
 (dsimp only[bJ,fsts,dnew,aE,aI,aV,aW,bE,aF,aM,Qa,aP,aC,aB];refine⟨by decide,?_⟩)
 refine d3 (.inl rfl) ?_;dsimp only[fsts,aA,aH,aY,aE,aI,aW,cZ,aD,aG,Qa,aJ,aC,aB,aK,bw,bL,je,jI,jv,jJ,eg,bD,jQ,bH,jN,et,jl,jD,c4];have G:Bfs (bn ban ps) x st h w (st,λo0=>Jb):= .start nd hv;refine dK dN (λi L=>∃v c,L=(Nb "near" M (md Nd.key (nearG ps) ns)<|Nb "counts" V (dCt ps x)<|Nb "starts" c (.list<|st.map dN)<|Nb "banned" Y (dBn ban)<|Nb "came" Jc (dCm (st.take i,λo0=>Jb))<|Nb "waiting" Jc (.list<|(st.take i).map dN)<|No "start" v<|No "at" Jb<|No "here" Jb<|No "other" Jb<|No "place" Jb<|[])) _ _ ⟨_,_,rfl⟩ ?_ ?_
 ·rintro j y L H ⟨v,c,rfl⟩ K m;dsimp only[cr,aM,Qa,aP,aC,aB,bT];have l:(st.take j).length<=16:=by
   rw[List.length_take];have:st.length<=h+w:=G.len;exact zle (Yt _ _)<|zle this (Kg O U)
  have o:=rA nd H;refine lL dl (a:=y) (g:=λy=>dV<|(λo0=>Jb:Par) y) (xs:=st.take j) (dk:=dN y) (dv:= .none) rfl (nd.sublist<|List.take_sublist _ _) (c9<|by exact zb1 l rfl) (gk _) (λQ q=> ?_) (λQ X q=> ?_) ?_
  ·exact⟨rfl,q⟩
  ·dsimp only[aD,aG,Qa,aJ,aC,aB,aK];rw[show tg0 (dN y) (Ja ["start"])=Jb by unfold tg0;rw[eK];rfl];exact q
  ·dsimp only[aM,Qa,aP,aC,aB];refine jj ?_
   (dsimp only[aG,Qa,aJ,aC,aB,aK,dz,cA,aM,aP];refine⟨trivial,?_⟩)
   rw[eK]
   (dsimp only[aB];refine⟨rfl,?_⟩)
   refine⟨by rw[Qd];exact c9<|by exact zb1 l rfl,m _ ⟨Ja (dN y,Jc),c,?_⟩⟩;have e1:=vC (s:=(st.take j,λo0=>Jb)) (a:=y) o Jb;rw[show upd ((st.take j,(λo0=>Jb:Par)):Bs).2 y Jb=λo0=>Jb from by funext z;unfold upd;split<;>rfl] at e1;rw[iz H,QF];exact Uk (λd=>(Nb "near" M (md Nd.key (nearG ps) ns)<|Nb "counts" V (dCt ps x)<|Nb "starts" c (D.list<|st.map dN)<|Nb "banned" Y (dBn ban)<|Nb "came" Jc d<|Nb "waiting" Jc (D.list<|(st.take j).map dN++[dN y])<|Nb "start" Jc (dN y)<|No "at" Jb<|No "here" Jb<|No "other" Jb<|No "place" Jb<|[])) e1
 rintro L ⟨v0,c,rfl⟩;rw[KR];refine hX ?_;refine bt ?_;dsimp only[aN,bE,aF,aM,Qa,aP,aC,aB];refine jr rfl 18 ?_;refine gK (λk L=>X6 λ(i:Nat) (s:Bs) (W:Bool) (R A P:Option (D×Bool))=>A5 (k+i=17) (i<=s.1.length) (Bfs (bn ban ps) x st h w s) (bfs (bn ban ps) x k i s=bfsF (bn ban ps) x st)<|L=(Nb "near" W (md Nd.key (nearG ps) ns)<|Nb "counts" V (dCt ps x)<|Nb "starts" c (.list<|st.map dN)<|Nb "banned" Y (dBn ban)<|Nb "came" Jc (dCm s)<|Nb "waiting" Jc (.list<|s.1.map dN)<|No "start" v0<|Nb "at" Jc (.int i)<|No "here" R<|No "other" A<|No "place" P<|[])) ?_ 18 17 _ (by decide) ⟨0,(st,λo0=>Jb),M,Jb,Jb,Jb,rfl,QY _,G,rfl,rfl⟩;rintro k L ⟨i,s,W,R,A,P,r,hi,b,J,rfl⟩ K m;have l:=b.len
 (dsimp only[aU,br,bk,bS,aA,aE,b5,aD,aG,Qa,aJ,aC,aB,aK,cw,cE,l5];refine⟨.inr rfl,?_⟩)
 rw[Qd];refine cW (λE=> ?_) λE=> ?_
 rotate_left
 ·have:bfs (bn ban ps) x k i s=s:=ww (by exact Kd.mp λq=>E<|QZ.mpr q);rw[this] at J;refine hX ?_;refine df ?_
  (dsimp only[cA,aM,Qa,aP,aC,aB,aG,aJ,aK,eg];refine⟨rfl,?_⟩)
  rw[J];exact gg.qr kq
 obtain⟨z,T⟩:∃z,s.1[i]? =Ja z:=⟨_,Qf<|by exact QZ.mp E⟩
 obtain⟨k,rfl⟩:∃k',k=k'+1:=⟨k-1,by exact zk1 O U r l E⟩
 rw[yF T] at J;have bF:Bfs (bn ban ps) x st h w ((nbrs (bn ban ps) z).foldl (stp x z) s):=b.fold (λp B=>S p (bn_mem.mp B).1) _ T λf hf=>hf;have pF:=(ju x z (nbrs (bn ban ps) z) s).length_le;have tz:∀y t,tg0 (dN y) t=Jb:=λy t=>by unfold tg0;rw[eK];rfl
 refine bt ?_;dsimp only[aQ,aD,aG,Qa,aJ,aC,aB,aK,bw];refine aZ (ir (v:=dN z)<|by rw[Qw,T];rfl) ?_;rw[tz];dsimp only[bE,aF,aM,Qa,aP,aC,aB];refine bt ?_;dsimp only[bq,aN,aD,aG,Qa,aJ,aC,aB,aK,bA,cI,bE,aF,aM,aP];refine d3 (.inl rfl) ?_;dsimp only[fsts,aA,aH,aY,aE,aI,aW,cZ,wF,aD,aG,Qa,aJ,aC,aB,aK,dg,xx];rw[gk,nX];have F:∀u v Z,K (Nb "near" Z (md Nd.key (nearG ps) ns)<|Nb "counts" V (dCt ps x)<|Nb "starts" c (.list<|st.map dN)<|Nb "banned" Y (dBn ban)<|Nb "came" Jc (dCm<|(nbrs (bn ban ps) z).foldl (stp x z) s)<|Nb "waiting" Jc (.list<|((nbrs (bn ban ps) z).foldl (stp x z) s).1.map dN)<|No "start" v0<|Nb "at" Jc (.int<|(i:Int)+1)<|Nb "here" Jc (dN z)<|No "other" u<|No "place" v<|[]):=λu v Z=>
  m k _ (by exact QW _) ⟨i+1,_,Z,_,_,_,by exact(QP _ _ _).symm.trans r,by exact zle (QZ.mp E) pF,bF,J,rfl⟩
 by_cases I:z∈ns
 ·rw[mJ dl I];dsimp only[BV];exact Au S b T (by exact Kg O U) λu v=>F u v _
 ·rw[on dl I];dsimp only[BN,bl,bE,c4];have:=F A P W;rw[nP,N.out z I] at this;exact this
end
structure Way where
 R:List Pl
 L:List Pl
 E:Nd
noncomputable def wayO(w:Way)(k:Nd->Pl->Way):Option (Nd×Pl)->Way
 |none=>w
 |some e=>k e.1 e.2
noncomputable def wayF(s:Bs):Nat->Nd->Way
 |0,y=>⟨[],[],y⟩
 |k+1,y=>wayO ⟨[],[],y⟩ (λz p=>bif y.isR then⟨(wayF s k z).R,p::(wayF s k z).L,(wayF s k z).E⟩ else⟨p::(wayF s k z).R,(wayF s k z).L,(wayF s k z).E⟩) (s.2 y)
theorem lr{s:Bs}(h:s.2 y=Jb):wayF s k y=⟨[],[],y⟩:=by
 induction k using Nat.casesOn with
 |zero=>rfl
 |succ k=>show wayO _ _ (s.2 y)=_;rw[h];rfl
theorem kY{s:Bs}{y z:Nd}(h:s.2 y=Ja (z,p)):wayF s (k+1) y=bif y.isR then⟨(wayF s k z).R,p::(wayF s k z).L,(wayF s k z).E⟩ else⟨p::(wayF s k z).R,(wayF s k z).L,(wayF s k z).E⟩:=by
 show wayO _ _ (s.2 y)=_;rw[h];rfl
noncomputable def ind(p:Prop)[Decidable p]:Int:=if p then 1 else 0
theorem fG{p:Prop}[Decidable p](h:p):ind p=1:=Uh h
theorem dy{p:Prop}[Decidable p](h:¬p):ind p=0:=Ug h
noncomputable abbrev cR(l:List Pl)(i:Nat):Int:=(l.countP λp=>decide (p.1=i):Nat)
noncomputable abbrev cC(l:List Pl)(i:Nat):Int:=(l.countP λp=>decide (p.2=i):Nat)
theorem nF(p:Pl)(l:List Pl)(i:Nat):cR (p::l) i=cR l i+ind (p.1=i):=by
 unfold cR ind;rw[Ys];by_cases h:p.1=i
 ·rw[Uh h,Uh (Ud h)];exact rfl
 ·rw[Ug h,Ug (by simpa using h)];exact rfl
theorem mY(p:Pl)(l:List Pl)(i:Nat):cC (p::l) i=cC l i+ind (p.2=i):=by
 unfold cC ind;rw[Ys];by_cases h:p.2=i
 ·rw[Uh h,Uh (Ud h)];exact rfl
 ·rw[Ug h,Ug (by simpa using h)];exact rfl
structure WayOK(ps:List Pl)(x:Pl->Int)(st:List Nd)(s:Bs)(j:Nat)(y:Nd)(W:Way):Prop where
 e:W.E∈st
 r:∀p∈W.R,p∈ps
 l:∀p∈W.L,p∈ps/\0<x p
 nd:W.L.Nodup
 at_:∀p∈W.L,∃i,i<=j/\s.1[i]? =Ja (.r p.1)
 row:∀i,cR W.R i-cR W.L i=ind (W.E= .r i)-ind (y= .r i)
 col:∀i,cC W.R i-cC W.L i=ind (y= .c i)-ind (W.E= .c i)
theorem xv{y z:Nd}{p:Pl}(h:(y,p)∈nbrs ps z):p∈ps/\((y= .c p.2/\z= .r p.1)\/(y= .r p.1/\z= .c p.2)):=by
 induction z with
 |r i=>
  obtain⟨q,N,Y⟩:=Ql.mp h;cases Y;obtain⟨J,w⟩:=Qi.mp N;exact⟨J,.inl ⟨rfl,by rw[Uf w]⟩⟩
 |c i=>
  obtain⟨q,N,Y⟩:=Ql.mp h;cases Y;obtain⟨J,w⟩:=Qi.mp N;exact⟨J,.inr ⟨rfl,by rw[Uf w]⟩⟩
theorem qw{x:Pl->Int}{s:Bs}(b:Bfs ps x st h w s):∀ (k j:Nat) (y:Nd),s.1[j]? =Ja y->j<k->WayOK ps x st s j y (wayF s k y)
 |0=>λj y o0 M=>absurd M<|Wn _
 |k+1=>λj y Q M=>by
  rcases b.par j y Q with⟨N,Y⟩|⟨z,p,i,N,Y,J,O,B⟩
  ·rw[lr N];exact⟨Y,λp D=>(bQ D),λp D=>(bQ D),.nil,λp D=>(bQ D),λi=>(Yw _).symm,λi=>(Yw _).symm⟩
  ·have W:=qw b k i z J (by exact zll Y<|zs M);rw[kY N];generalize wayF s k z=V at W ⊢;obtain⟨D,⟨rfl,rfl⟩|⟨rfl,rfl⟩⟩:=xv O
   ·show WayOK ps x st s j (.c p.2) ⟨p::V.R,V.L,V.E⟩;refine⟨W.e,λq o=> ?_,W.l,W.nd,λq o=> ?_,λm=> ?_,λm=> ?_⟩
    ·cases o with
     |head=>exact D
     |tail _ o=>exact W.r q o
    ·obtain⟨G,C,S⟩:=W.at_ q o;exact⟨G,by exact zle C<|KW Y,S⟩
    ·have:=W.row m;dsimp only;rw[nF,dy (p:=Nd.c p.2= .r m) (λq=>nomatch q)];by_cases q:p.1=m
     ·subst q;rw[fG (p:=Nd.r p.1= .r p.1) rfl] at this;rw[fG (p:=p.1=p.1) rfl];exact zw1 this
     ·rw[dy (p:=Nd.r p.1= .r m) (λz=>q<|Nd.r.inj z)] at this;rw[dy q];exact zw2 this
    ·have:=W.col m;dsimp only;rw[mY];rw[dy (p:=Nd.r p.1= .c m) (λq=>nomatch q)] at this;by_cases q:p.2=m
     ·subst q;rw[fG (p:=Nd.c p.2= .c p.2) rfl,fG (p:=p.2=p.2) rfl];exact zw5 this
     ·rw[dy (p:=Nd.c p.2= .c m) (λz=>q<|Nd.c.inj z),dy q];exact zw2 this
   ·show WayOK ps x st s j (.r p.1) ⟨V.R,p::V.L,V.E⟩;have hx:0<x p:=by
     have B:(Nd.isR (.c p.2)||decide (x p>0))=Jc:=B;exact Uf B
    refine⟨W.e,W.r,λq o=> ?_,Qz.mpr ⟨λq=> ?_,W.nd⟩,λq o=> ?_,λm=> ?_,λm=> ?_⟩
    ·cases o with
     |head=>exact⟨D,hx⟩
     |tail _ o=>exact W.l q o
    ·obtain⟨G,C,S⟩:=W.at_ p q;have:=(List.getElem?_inj (QI.mp Q).1 b.nd).mp (Q.trans S.symm);exact KG _<|zll Y (zle (QS this) C)
    ·cases o with
     |head=>exact⟨j,QA _,Q⟩
     |tail _ o=>obtain⟨G,C,S⟩:=W.at_ q o;exact⟨G,by exact zle C<|KW Y,S⟩
    ·have:=W.row m;dsimp only;rw[nF];rw[dy (p:=Nd.c p.2= .r m) (λq=>nomatch q)] at this;by_cases q:p.1=m
     ·subst q;rw[fG (p:=Nd.r p.1= .r p.1) rfl,fG (p:=p.1=p.1) rfl];exact zw3 this
     ·rw[dy (p:=Nd.r p.1= .r m) (λz=>q<|Nd.r.inj z),dy q];exact zw4 this
    ·have:=W.col m;dsimp only;rw[mY,dy (p:=Nd.r p.1= .c m) (λq=>nomatch q)];by_cases q:p.2=m
     ·subst q;rw[fG (p:=Nd.c p.2= .c p.2) rfl] at this;rw[fG (p:=p.2=p.2) rfl];exact zw7 this
     ·rw[dy (p:=Nd.c p.2= .c m) (λz=>q<|Nd.c.inj z)] at this;rw[dy q];exact zw4 this
def incs(δ:Int)(R:List Pl)(x:Pl->Int):Pl->Int:=R.foldl (λx p=>upd x p (x p+δ)) x
noncomputable def sumOn(f:Pl->Bool)(ps:List Pl)(x:Pl->Int):Int:=((ps.filter f).map x).sum
theorem oj{f:Pl->Bool}{x y:Pl->Int}(h:∀p∈ps,x p=y p):sumOn f ps x=sumOn f ps y:=by
 unfold sumOn;rw[Qs λp D=>h p (Qi.mp D).1]
theorem dU(f:Pl->Bool)(q:Pl)(ps:List Pl)(x:Pl->Int):sumOn f (q::ps) x=(if f q then x q else 0)+sumOn f ps x:=by
 unfold sumOn;by_cases h:f q=Jc
 ·rw[Kt h,Uh h];rfl
 ·rw[Ku h,Ug h,We]
theorem jG{f:Pl->Bool}{x:Pl->Int}:∀ {ps:List Pl},ps.Nodup->p∈ps->sumOn f ps (upd x p (x p+δ))=sumOn f ps x+if f p then δ else 0:=λ{ps}=>by
 induction ps with
 |nil=>exact λo0 h=>bQ h
 |cons q ps i=>
  intro nd D;obtain⟨Y,I⟩:=Qz.mp nd;rw[dU,dU];by_cases e:q=p
  ·subst e;rw[oj (y:=x) λr n=>cB _ _ λ(z:r=q)=>Y<|z▸n,b6];by_cases z:f q=Jc
   ·rw[Uh z,Uh z,Uh z];exact Int.add_right_comm _ _ _
   ·rw[Ug z,Ug z,Ug z,Kf]
  ·rw[cB _ _ e,i I ((Qx.mp D).resolve_left λz=>e z.symm)];exact(KT _ _ _).symm
theorem fK{f:Pl->Bool}{ps:List Pl}(nd:ps.Nodup):∀ {R:List Pl} {x:Pl->Int},(∀p∈R,p∈ps)->sumOn f ps (incs δ R x)=sumOn f ps x+δ*(R.countP f:Nat)
 |[],x,_=>by show _=_+δ*0;rw[Int.mul_zero,Kf];rfl
 |p::R,x,h=>by
  show sumOn f ps (incs δ R<|upd x p (x p+δ))=_;rw[fK nd λq o=>h q<|.tail _ o,jG nd<|h p (.head _),Ys]
  split
  ·rw[Int.natCast_add,Int.mul_add];show _=_+(_+δ*1);exact zr10 _ _ _
  ·rw[Nat.add_zero];exact Uk (· +_)<|Kf _
theorem nv(h:0<=δ):∀ {R:List Pl} {x:Pl->Int} (q:Pl),x q<=incs δ R x q
 |[],x,q=>Kc _
 |p::R,x,q=>by
  refine QN ?_<|nv h (R:=R) (x:=upd x p<|x p+δ) q;by_cases e:q=p
  ·subst e;rw[b6];exact KV h
  ·rw[cB _ _ e];exact Kc _
theorem eS:∀ {R:List Pl} {x:Pl->Int} {q:Pl},q∉R->incs δ R x q=x q
 |[],x,q,_=>rfl
 |p::R,x,q,h=>(eS (R:=R) (x:=upd x p (x p+δ)) λz=>h (.tail _ z)).trans (cB _ _ λ(z:q=p)=>h (z▸ .head _))
theorem oH:∀ {R:List Pl} {x:Pl->Int} {q:Pl},R.Nodup->q∈R->incs δ R x q=x q+δ:=λ{R}=>by
 induction R with
 |nil=>exact λo0 h=>bQ h
 |cons p R i=>
  intro x q nd h;obtain⟨n,z⟩:=Qz.mp nd;show incs δ R (upd x p<|x p+δ) q=_;by_cases e:q=p
  ·subst e;rw[eS n,b6]
  ·rw[i z ((Qx.mp h).resolve_left e),cB _ _ e]
theorem l4(δ:Int){R:List Pl}(x:Pl->Int)(h:R[j]? =Ja p):incs δ (R.take (j+1)) x=upd (incs δ (R.take j) x) p (incs δ (R.take j) x p+δ):=jT _ x h
theorem y0{xs:List Nd}(nd:xs.Nodup):((xs.filter λy=>y.isR==b).map Nd.no).Nodup:=by
 rw[QT,Wp];refine(QT.mp nd).filter _|>.imp_of_mem λ{u v} p hv h q=>h ?_
 have N:(u.isR==b)=Jc:=(Qi.mp p).2;have Y:(v.isR==b)=Jc:=(Qi.mp hv).2;have J:=Ui N;have w:=Ui Y
 rcases u with⟨⟩<;>rcases v with⟨⟩<;>first|(subst J;cases w;done)|(subst J;cases w;done)|(have:_=_:=q;cases this;rfl)
theorem tm(y:Nd)(t:Tag):tg0 (dN y) t=Jb:=by unfold tg0;rw[eK];rfl
theorem ud{L:Type}[DecidableEq L]{xs:List L}{x:L}(h:x∈xs):withx xs x=xs:=Uh h
theorem uy{ps:List Pl}{x:Pl->Int}{p:Pl}(h:p∈ps)(v:Int):md pkey (upd (λp=>D.int (x p)) p (.int v)) (withx ps p)=dCt ps (upd x p v):=by
 rw[ud h,oA D.int x p v]
noncomputable def wB(b:Bool):String:=bif b then "row" else "column"
noncomputable def mkN(b:Bool)(k:Nat):Nd:=bif b then .r k else .c k
theorem yB{y:Nd}(h:y.isR=b):mkN b y.no=y:=by subst h;rcases y with⟨⟩<;>rfl
theorem sP(b:Bool)(k:Nat):(mkN b k).no=k/\(mkN b k).isR=b:=by rcases b with⟨⟩<;>exact⟨rfl,rfl⟩
theorem Az(y:Nd)(b:Bool):D.eqv (.str y.wd) (.str (wB b))=(y.isR==b):=by
 induction b with
 |true=>exact(rN y).trans (by cases y.isR<;>rfl)
 |false=>exact(rC y).trans (by cases y.isR<;>rfl)
theorem Ap(b:Bool):D.okd 40 (.str (wB b))=Jc:=by
 induction b with
 |true=>exact nK
 |false=>exact nJ
def numF(b:Bool)(m:Nat)(xs:List Nd):List Nat:=(Qc m).filter λk=>decide<|mkN b k∈xs
theorem xn{xs:List Nd}(nd:xs.Nodup)(L:∀y∈xs,y.isR=b->y.no<m){j:List Int}(D:j.Perm ((xs.filter λy=>y.isR==b).map λy=>(y.no:Int)))(s:j.Pairwise (· <= ·)):j=(numF b m xs).map λ(k:Nat)=>(k:Int):=by
 have Y:((xs.filter λy=>y.isR==b).map λy=>(y.no:Int)).Nodup:=by
  rw[show((xs.filter λy=>y.isR==b).map λy=>(y.no:Int))=((xs.filter λy=>y.isR==b).map Nd.no).map λ(k:Nat)=>(k:Int) from by rw[QB];rfl];rw[QT,Wp];exact(QT.mp<|y0 nd).imp λh q=>h<|KH.mp q
 have r:((numF b m xs).map λ(k:Nat)=>(k:Int)).Pairwise (· < ·):=by
  rw[Wp];exact(List.pairwise_lt_range.filter _).imp λh=>QZ.mpr h
 have z:((numF b m xs).map λ(k:Nat)=>(k:Int)).Nodup:=QT.mpr (r.imp λh=>Int.ne_of_lt h);refine List.Perm.eq_of_pairwise (le:=(· <= ·)) (λa b o0 o0 N p=>WC N p) s (r.imp λh=>Yd h)<|D.trans ((List.perm_ext_iff_of_nodup Y z).mpr λa=> ?_);rw[Ql,Ql]
 constructor
 ·rintro ⟨y,W,rfl⟩;obtain⟨N,p⟩:=Qi.mp W;have p:=Ui p;exact⟨y.no,Qi.mpr ⟨Qg.mpr<|L y N p,Ud<|by rw[yB p];exact N⟩,rfl⟩
 ·rintro ⟨k,M,rfl⟩;have N:=Uf (Qi.mp M).2;exact⟨mkN b k,Qi.mpr ⟨N,by rw[(sP b k).2];exact beq_self_eq_true b⟩,by rw[(sP b k).1]⟩
theorem xL(xs:List Nd):(xs.map Nd.key).map keyDd=xs.map dN:=by
 rw[QB];refine Qs λy o0=> ?_
 rcases y with⟨⟩<;>rfl
theorem wR(y:Nd):y.key.length=2:=by rcases y with⟨⟩<;>rfl
section
variable{C:Cx}{mg mb:Jq->Option Jf}{n:Nat}{Q:D->Bool->Prop}{X:DX}
theorem lx(e:Env1 C G1 mg mb){s:Bs}(nd:s.1.Nodup)(h:s.1.length<=16)(L:∀y∈s.1,y.isR=b->y.no<m){d V:Bool}(k:Q (dNs (numF b m s.1)) Jc):aR (aO C (n+1)) "numbers_of" [(dCm s,d),(.str (wB b),V)] Q X:=by
 refine e.fn fu (bo 4 rfl) rfl λl c P PX g=> ?_;dsimp only[fu];dsimp only[aX,b8,bp];refine bK ?_
 (dsimp only[bk,sy,aF,aA,aE,b5];refine⟨.inr rfl,?_⟩)
 refine cK (.inl rfl) ?_
 (dsimp only[fsts,dz,aA,aH,aY,aE,aI,aW,cZ,bk,g6,b5,aD,aG,Qa,aC,aB,aK,dg,AF,bl,c4];refine⟨.inr rfl,?_⟩)
 refine⟨⟨by rw[Qd];exact eZ<|by exact zb2 h rfl,λq o=> ?_⟩,?_⟩
 ·obtain⟨y,o0,rfl⟩:=Ql.mp o;rw[wR];exact eZ<|by decide
 rw[xL];refine cN dN (λy=> .int (y.no:Int)) (λy=>y.isR==b) (λy W=> ?_) ?_
 ·rw[Bd];dsimp only[bI,BK,iS,aP,Qa,aM,aC,aB,bT];refine⟨λT Y=> ?_,λo0 K k=> ?_⟩
  ·dsimp only[tstD];dsimp only[aU,br,cM,deq,aD,aJ,Qa,aG,aB,aC,aK];refine⟨⟨qg y,Ap b⟩,?_⟩;rw[Az];exact Y
  ·dsimp only[elD];dsimp only[aD,aJ,Qa,aG,aC,aB,aK,bA];exact k
 ·refine gH (eH _ _) ?_;refine⟨?_,λj N p=> ?_⟩
  ·rw[Qd];exact Ko (KY _ _)<|by exact zb1 h rfl
  ·rw[xn nd L N p,QB];exact g.qr k
theorem vz(e:Env1 C G1 mg mb){ps:List Pl}{x:Pl->Int}{st:List Nd}{h w:Nat}{s:Bs}(b:Bfs ps x st h w s)(m:h+w<=16){j:Nat}{y:Nd}(S:s.1[j]? =Ja y){M V:Bool}(q:Q (.tup [.list ((wayF s 17 y).R.map dP),.list ((wayF s 17 y).L.map dP),dN (wayF s 17 y).E]) Jc):
  aR (aO C<|n+1) "way_to" [(dCm s,M),(dN y,V)] Q X:=by
 refine e.fn jq (bo 2 rfl) rfl λH I P PX g=> ?_;dsimp only[jq];dsimp only[aX,b8,bp];refine bt ?_
 (dsimp only[bJ,fsts,dnew,aE,aI,aV,aW,bE,aF,aM,Qa,aP,aC,aB];refine⟨by decide,?_⟩)
 refine bt ?_
 (dsimp only[bJ,fsts,dnew,aE,aI,aV,aW,bE,aF,aM,Qa,aP,aC,aB];refine⟨by decide,?_⟩)
 refine bt ?_;dsimp only[aD,aG,Qa,aJ,aC,aB,aK];rw[tm];dsimp only[bE,aF,aM,Qa,aP,aC,aB];have T:=b.len;have c:j<s.1.length:=(QI.mp S).1;refine jr rfl 18 ?_;refine gK (λk B=>X6 λ(f:Nat) (z:Nd) (a L:List Pl) (u A:Option (D×Bool))=>A6 (k<f) (s.1[k]? =Ja z) (f<=17) (a.length+f<=17/\L.length+f<=17) (wayF s 17 y=⟨a++(wayF s f z).R,L++(wayF s f z).L,(wayF s f z).E⟩)<|B=(Nb "came" M (dCm s)<|Nb "goal" V (dN y)<|Nb "raised" Jc (.list<|a.map dP)<|Nb "lowered" Jc (.list<|L.map dP)<|Nb "here" Jc (dN z)<|No "ahead" u<|No "place" A<|[])) ?_ 18 j _ (by exact zll c<|zle T (zb2 m rfl)) ⟨17,y,[],[],Jb,Jb,by exact zll c<|zle T (zb2 m rfl),S,QA _,⟨by simp,by simp⟩,rfl,rfl⟩;rintro k B ⟨f,z,a,L,u,A,W,R,E,⟨l,U⟩,d,rfl⟩ K v;have Z:=QE R;dsimp only[d5,br,aQ,aD,aG,Qa,aJ,aC,aB,aK];refine aZ (cQ dl (gk z) Z) ?_;skip
 rcases b.par k z R with⟨N,Y⟩|⟨o,p,i,N,Y,J,F,O⟩
 ·rw[N];rw[lr N,QO,QO] at d;rw[d] at q;refine⟨rfl,?_⟩;dsimp only[dV,D.isNone];dsimp only[ch,aC];refine hX ?_;refine df ?_
  (dsimp only[e9,dJ,aT,eX,aV,cA,aM,Qa,aP,aC,aB,aG,aJ,aK,bH];refine⟨rfl,rfl,?_⟩)
  rw[eK]
  (dsimp only[aB];refine⟨by decide,?_⟩)
  exact g.qr q
 ·rw[N];refine⟨rfl,?_⟩;dsimp only[dV,D.isNone];dsimp only[i9,aB];obtain⟨f,rfl⟩:∃G,f=G+1:=⟨f-1,by exact zpr W⟩
  rw[kY N] at d;refine dS ?_;dsimp only[aQ,aD,aG,Qa,aJ,aC,aB,aK,dg];rw[cQ dl (gk z) Z,N];dsimp only[dV];dsimp only[cm,bG,tgl,bu,bv,iS,bT];rw[eK,fx];dsimp only[dt,aB,bE,aF,aM,Qa,aP,aC];refine ca ?_;dsimp only[aU,br,cM,deq,cg,aQ,aN,aD,aG,Qa,aC,aB,aK];refine aZ (rn _) ?_;refine gj ?_;refine⟨⟨qg z,nJ⟩,?_⟩;rw[rC];refine jn (λr=> ?_) λr=> ?_
  ·rw[r] at d;refine jj ?_
   (dsimp only[aG,Qa,aC,aB,aK,dz,cA,aM];refine⟨trivial,?_⟩)
   rw[fx]
   (dsimp only[aB];refine⟨rfl,?_⟩)
   refine⟨by rw[Qd];exact c9<|by exact zb1 (zle (QV _ _) U) rfl,?_⟩;refine hX ?_;refine bt ?_;dsimp only[aD,aG,Qa,aC,aB,aK];rw[tm];dsimp only[bE,aF,aM,Qa,aC,aB];refine v i _ Y ⟨f,o,a,L++[p],Ja (dN o,Jc),Ja (dP p,Jc),by exact zll Y<|zs W,J,by exact Kj E,⟨by exact Kj l,by rw[QJ,WK];exact zle (QS<|QP _ _ _) U⟩,?_,?_⟩
   ·rw[KI];exact d
   ·rw[QF];rfl
  ·rw[r] at d;refine jj ?_
   (dsimp only[aG,Qa,aC,aB,aK,dz,cA,aM];refine⟨trivial,?_⟩)
   rw[fx]
   (dsimp only[aB];refine⟨rfl,?_⟩)
   refine⟨by rw[Qd];exact c9<|by exact zb1 (zle (QV _ _) l) rfl,?_⟩;refine hX ?_;refine bt ?_;dsimp only[aD,aG,Qa,aC,aB,aK];rw[tm];dsimp only[bE,aF,aM,Qa,aC,aB];refine v i _ Y ⟨f,o,a++[p],L,Ja (dN o,Jc),Ja (dP p,Jc),by exact zll Y<|zs W,J,by exact Kj E,⟨by rw[QJ,WK];exact zle (QS<|QP _ _ _) l,by exact Kj U⟩,?_,?_⟩
   ·rw[KI];exact d
   ·rw[QF];rfl
theorem qf(e:Env1 C G1 mg mb){ps:List Pl}(nd:ps.Nodup)(l:ps.length<=64){x:Pl->Int}{R L:List Pl}(P:∀p∈R,p∈ps)(o:∀p∈L,p∈ps){d V b:Bool}{Q:D->Prop}(T:Q (dCt ps (incs (-a) L (incs a R x)))):
  (aR<|aO C (n+1)).io "move" 0 [(dCt ps x,Jc),(.list<|R.map dP,d),(.list<|L.map dP,V),(.int a,b)] Q:=by
 refine e.fnI nj (bo 3 rfl) (x:="counts") rfl (by decide) rfl rfl ?_;dsimp only[nj];dsimp only[aX,b8,bp];refine d3 (.inl rfl) ?_;dsimp only[fsts,aA,aH,aY,aE,aI,aW,cZ,aD,aG,Qa,aJ,aC,aB,aK,bw,bL,je,jI,jv,jJ,eg,bD,jQ,bH,eG,dt,jN,et,jl,jD,c4];refine dK dP (λi A=>∃u c,A=(Nb "counts" Jc (dCt ps<|incs a (R.take i) x)<|Nb "raised" c (.list<|R.map dP)<|Nb "lowered" V (.list<|L.map dP)<|Nb "amount" b (.int a)<|No "place" u<|[])) _ _ ⟨_,_,rfl⟩ ?_ ?_
 ·rintro j p A H ⟨u,c,rfl⟩ K k;rw[l4 a x H] at k;have h:=P p<|QE H;generalize incs a (R.take j) x=x at k ⊢;dsimp only[cr,aM,Qa,aP,aB,aC,bT];refine lL ce (a:=p) (g:=λp=> .int (x p)) (xs:=ps) (dk:=dP p) (dv:= .int (x p+a)) rfl nd (c9<|by exact zb1 l rfl) (c3 p) (λQ q=> ?_) (λQ X q=> ?_) ?_
  ·dsimp only[pj,bq,aD,aG,Qa,aC,aB,aK,bA,aQ,dg];refine aZ (cQ ce (c3 p) h) ?_
   (dsimp only[cI];refine⟨rfl,?_⟩)
   exact q
  ·dsimp only[aD,aG,Qa,aB,aC,aK];exact q
  ·dsimp only[aM,Qa,aC,aB];rw[uy h];exact k _ ⟨_,_,rfl⟩
 rintro A ⟨u,c,rfl⟩;rw[KR];generalize incs a R x=x at T ⊢;refine hX ?_;refine d3 (.inl rfl) ?_;dsimp only[fsts,aA,aH,aY,aE,aI,aW,cZ,aD,aG,Qa,aJ,aC,aB,aK,bw,bL,je,jI,jv,jJ,eg,bD,bH,jQ,eG,dt,jN,jl,jD,c4];refine dK dP (λi A=>∃u Z,A=(Nb "counts" Jc (dCt ps<|incs (-a) (L.take i) x)<|Nb "raised" c (.list<|R.map dP)<|Nb "lowered" Z (.list<|L.map dP)<|Nb "amount" b (.int a)<|No "place" u<|[])) _ _ ⟨_,_,rfl⟩ ?_ ?_
 ·rintro j p A H ⟨u,Z,rfl⟩ K k;rw[l4 (-a) x H] at k;have h:=o p<|QE H;generalize incs (-a) (L.take j) x=x at k ⊢;dsimp only[cr,aM,Qa,aP,aB,aC,bT];refine lL ce (a:=p) (g:=λp=> .int (x p)) (xs:=ps) (dk:=dP p) (dv:= .int (x p+ -a)) rfl nd (c9<|by exact zb1 l rfl) (c3 p) (λQ q=> ?_) (λQ X q=> ?_) ?_
  ·dsimp only[pj,bq,aD,aG,Qa,aC,aB,aK,bA,aQ,dg];refine aZ (cQ ce (c3 p) h) ?_
   (dsimp only[cT];refine⟨rfl,?_⟩)
   rw[KO];exact q
  ·dsimp only[aD,aG,Qa,aB,aC,aK];exact q
  ·dsimp only[aM,Qa,aC,aB];rw[uy h];exact k _ ⟨_,_,rfl⟩
 rintro A ⟨u,Z,rfl⟩;rw[KR];exact⟨rfl,T⟩
end
theorem lu{r:Nat->Int}:∀ {l:List Nat},l.Nodup->(l.map (upd r i (r i+δ))).sum=(l.map r).sum+if i∈l then δ else 0
 |[]=>λo0=>rfl
 |k::l=>λnd=>by
  obtain⟨n,I⟩:=Qz.mp nd;rw[Qo,QK,Qo,QK,lu I];by_cases e:k=i
  ·subst e;rw[b6,Ug n,Uh (.head _)];exact zr12 _ _ _
  ·rw[cB _ _ e];by_cases q:i∈l
   ·rw[Uh q,Uh (.tail _ q)];exact(KT _ _ _).symm
   ·rw[Ug q,Ug (λz=>(Qx.mp z).elim (λz=>e z.symm) q)];exact(KT _ _ _).symm
theorem nL{q:Nat}{v:Int}:∀ {l:List Nat},l.Nodup->(l.map λi=>if q=i then v else 0).sum=if q∈l then v else 0
 |[]=>λo0=>rfl
 |k::l=>λnd=>by
  obtain⟨n,I⟩:=Qz.mp nd;rw[Qo,QK,nL I];by_cases e:q=k
  ·subst e;rw[Uh rfl,Ug n,Uh (.head _)];exact Kf _
  ·rw[Ug e];by_cases z:q∈l
   ·rw[Uh z,Uh (.tail _ z)];exact We _
   ·rw[Ug z,Ug (λy=>(Qx.mp y).elim e z)];exact rfl
theorem eU{f:Pl->Nat}{x:Pl->Int}{l:List Nat}(nd:l.Nodup):∀ps:List Pl,(l.map λi=>sumOn (λp=>decide (f p=i)) ps x).sum=sumOn (λp=>decide (f p∈l)) ps x
 |[]=>ik l
 |p::ps=>by
  rw[dU,<-eU nd ps,show(l.map λi=>sumOn (λp=>decide<|f p=i) (p::ps) x)=l.map λi=>(if f p=i then x p else 0)+sumOn (λp=>decide<|f p=i) ps x from Qs λi o0=> ?_,<-jB,nL nd]
  ·by_cases h:f p∈l
   ·rw[Uh h,Uh (Ud h)]
   ·rw[Ug h,Ug (by simpa using h)]
  ·rw[dU];by_cases h:f p=i
   ·rw[Uh h,Uh (Ud h)]
   ·rw[Ug h,Ug (by simpa using h)]
theorem kP{f g:Pl->Bool}{x:Pl->Int}:∀ {ps:List Pl},(∀p∈ps,f p=g p\/x p=0)->sumOn f ps x=sumOn g ps x
 |[]=>λo0=>rfl
 |p::ps=>λh=>by
  rw[dU,dU,kP λq o=>h q (.tail _ o)]
  rcases h p (.head _) with e|e
  ·rw[e]
  ·rw[e];split<;>split<;>rfl
theorem qJ{L:Type}{f:L->Int}:∀ {l:List L},(∀a∈l,0<=f a)->(l.map f).sum<=0->∀a∈l,f a=0:=λ{l} h i a T=>by
 induction l with
 |nil=>exact bQ T
 |cons b l W=>
  rw[Qo,QK] at i;have N:=h b<|.head _;have p:=gQ λc Z=>h c<|.tail _ Z
  rcases Qx.mp T with e|T
  ·rw[e];exact WC (QN (KV p) i) N
  ·exact W (λc Z=>h c<|.tail _ Z) (QN (Int.le_add_of_nonneg_left N) i) T
theorem oP{f:Nat->Int}{p:Nat->Bool}:∀ {l:List Nat},(∀a∈l,p a=Jd->f a=0)->((l.filter p).map f).sum=(l.map f).sum
 |[]=>λo0=>rfl
 |a::l=>λh=>by
  rw[Qo,QK];have i:=oP λb v=>h b<|.tail _ v
  induction D:p a with
  |true=>rw[Kt D,Qo,QK,i]
  |false=>rw[Ku (by rw[D];exact QC),i,h a (.head _) D,We]
set_option genCtorIdx false in
inductive Out where
 |tab(x:Pl->Int)
 |no(pa pb:Nat->Bool)
noncomputable abbrev Out.ctorIdx(x:Out):Nat:=Out.casesOn x (λo0=>0) (λo0 o0=>1)
noncomputable def stF(h:Nat)(r:Nat->Int):List Nd:=((Qc h).filter λi=>decide (r i>0)).map .r
abbrev cameF(ps:List Pl)(h:Nat)(x:Pl->Int)(r:Nat->Int):Bs:=bfsF ps x<|stF h r
def goalF(w:Nat)(c:Nat->Int)(B:Bs):List Nat:=(numF Jd w B.1).filter λj=>decide<|c j>0
abbrev wayG(B:Bs)(g:Nat):Way:=wayF B 17<|.c g
def amt(x:Pl->Int)(r c:Nat->Int)(W:Way)(g:Nat):Int:=lmin (r W.E.no::c g::W.L.map x)
noncomputable def outG(o:Out)(k:Nat->Out):List Nat->Out
 |[]=>o
 |g::_=>k g
noncomputable def outF(ps:List Pl)(h w:Nat):Nat->(Pl->Int)->(Nat->Int)->(Nat->Int)->Out
 |0,x,_,_=> .tab x
 |k+1,x,r,c=>if((Qc h).map r).sum>0 then
   outG (.no (λi=>decide (Nd.r i∈(cameF ps h x r).1)) (λj=>decide (Nd.c j∈(cameF ps h x r).1))) (λg=>outF ps h w k (incs (-amt x r c (wayG (cameF ps h x r) g) g) (wayG (cameF ps h x r) g).L (incs (amt x r c (wayG (cameF ps h x r) g) g) (wayG (cameF ps h x r) g).R x))
    (upd r (wayG (cameF ps h x r) g).E.no (r (wayG (cameF ps h x r) g).E.no-amt x r c (wayG (cameF ps h x r) g) g)) (upd c g (c g-amt x r c (wayG (cameF ps h x r) g) g))) (goalF w c (cameF ps h x r))
  else .tab x
abbrev rowS(ps:List Pl)(x:Pl->Int)(i:Nat):Int:=sumOn (λp=>decide (p.1=i)) ps x
abbrev colS(ps:List Pl)(x:Pl->Int)(j:Nat):Int:=sumOn (λp=>decide (p.2=j)) ps x
structure Fill(ps:List Pl)(h w:Nat)(R C:Nat->Int)(x:Pl->Int)(r c:Nat->Int):Prop where
 x0:∀p∈ps,0<=x p
 r0:∀i,i<h->0<=r i
 c0:∀j,j<w->0<=c j
 row:∀i,i<h->rowS ps x i+r i=R i
 col:∀j,j<w->colS ps x j+c j=C j
 eq:((Qc h).map r).sum=((Qc w).map c).sum
structure Sz(ps:List Pl)(h w:Nat):Prop where
 nd:ps.Nodup
 mem:∀p∈ps,p.1<h/\p.2<w
 h8:h<=8
 w8:w<=8
def Good(ps:List Pl)(h w:Nat)(R C:Nat->Int):Out->Prop
 | .tab x=>(∀p∈ps,0<=x p)/\(∀i,i<h->rowS ps x i=R i)/\∀j,j<w->colS ps x j=C j
 | .no a b=>(∀p∈ps,a p.1=Jc->b p.2=Jc)/\0<(((Qc h).filter a).map R).sum-(((Qc w).filter b).map C).sum
theorem xY(h:Nat)(r:Nat->Int):(stF h r).Nodup:=by
 unfold stF;rw[QT,Wp];exact((QT.mp KC).filter _).imp λh q=>h<|Nd.r.inj q
theorem vd{r:Nat->Int}(W:y∈stF h r):∃i,y= .r i/\i<h/\0<r i:=by
 obtain⟨i,t,rfl⟩:=Ql.mp W;obtain⟨N,p⟩:=Qi.mp t;exact⟨i,rfl,Qg.mp N,Uf p⟩
theorem vq{r:Nat->Int}:∀y∈stF h r,y∈allN h w:=λy W=>by
 obtain⟨i,rfl,N,o0⟩:=vd W;exact Qj _<|Ql.mpr ⟨i,Qg.mpr N,rfl⟩
section
variable{ps:List Pl}{h w:Nat}{R C:Nat->Int}{x:Pl->Int}{r c:Nat->Int}
theorem mO(S:Sz ps h w):Bfs ps x (stF h r) h w (cameF ps h x r)/\∀z∈(cameF ps h x r).1,∀e∈nbrs ps z,okE x z e.2=Jc->e.1∈(cameF ps h x r).1:=
 qo S.mem (Kg S.h8 S.w8) 17 0 _ (.start (xY h r) vq) (λi z t=>absurd t<|Wn _) (QY _) (by decide)
theorem Bu(S:Sz ps h w)(F:Fill ps h w R C x r c)(s:((Qc h).map r).sum>0)(g:goalF w c (cameF ps h x r)=[]):
  Good ps h w R C (.no (λi=>decide<|Nd.r i∈(cameF ps h x r).1) λj=>decide<|Nd.c j∈(cameF ps h x r).1):=by
 obtain⟨b,M⟩:=mO (x:=x) (r:=r) S;generalize cameF ps h x r=B at b M g ⊢;have Z:∀p∈ps,Nd.r p.1∈B.1->Nd.c p.2∈B.1:=λp D n=>M _ n (.c p.2,p) (Ql.mpr ⟨p,Qi.mpr ⟨D,Ud rfl⟩,rfl⟩) rfl;have X:∀p∈ps,0<x p->Nd.c p.2∈B.1->Nd.r p.1∈B.1:=λp D hx n=>M _ n (.r p.1,p) (Ql.mpr ⟨p,Qi.mpr ⟨D,Ud rfl⟩,rfl⟩)<|decide_eq_true hx;refine⟨λp D n=>Ud<|Z p D (Uf n),?_⟩;have A:((Qc h).filter λi=>decide<|Nd.r i∈B.1).Nodup:=KC.filter _;have O:((Qc w).filter λj=>decide<|Nd.c j∈B.1).Nodup:=KC.filter _;have T:(((Qc h).filter λi=>decide<|Nd.r i∈B.1).map R).sum=sumOn (λp=>decide<|p.1∈(Qc h).filter λi=>decide<|Nd.r i∈B.1) ps x+((Qc h).map r).sum:=by
  rw[<-eU (f:=(·.1)) A,<-oP (p:=λi=>decide<|Nd.r i∈B.1) (f:=r) (l:=Qc h),jB]
  ·exact Uk WU<|Qs λi t=>(F.row i<|Qg.mp (Qi.mp t).1).symm
  ·intro i t D;have N:=F.r0 i (Qg.mp t)
   rcases Int.lt_or_eq_of_le N with q|q
   ·exact absurd (b.has _<|Ql.mpr ⟨i,Qi.mpr ⟨t,Ud q⟩,rfl⟩)<|of_decide_eq_false D
   ·exact q.symm
 have e:(((Qc w).filter λj=>decide<|Nd.c j∈B.1).map C).sum=sumOn (λp=>decide<|p.2∈(Qc w).filter λj=>decide<|Nd.c j∈B.1) ps x:=by
  rw[<-eU (f:=(·.2)) O];refine Uk WU (Qs λj H=> ?_);have K:=Qg.mp (Qi.mp H).1;have N:=F.c0 j K;have Y:¬c j>0:=λq=>by
   have:j∈goalF w c B:=Qi.mpr ⟨H,Ud q⟩;rw[g] at this;cases this
  have:=F.col j K;show C j=colS ps x j;exact zr11 N Y this
 have W:sumOn (λp=>decide<|p.1∈(Qc h).filter λi=>decide<|Nd.r i∈B.1) ps x=sumOn (λp=>decide<|p.2∈(Qc w).filter λj=>decide<|Nd.c j∈B.1) ps x:=by
  refine kP λp D=> ?_;obtain⟨o,U⟩:=S.mem p D
  rcases Int.lt_or_eq_of_le (F.x0 p D) with q|q
  ·refine .inl<|decide_eq_decide.mpr ?_;rw[Qi,Qi,Qg,Qg,Uj,Uj];exact⟨λz=>⟨U,Z p D z.2⟩,λz=>⟨o,X p D q z.2⟩⟩
  ·exact .inr q.symm
 rw[T,e,W];exact zr9 s
structure Turn(ps:List Pl)(h w:Nat)(R C:Nat->Int)(x:Pl->Int)(r c:Nat->Int)(B:Bs)(g:Nat):Prop where
 gw:g<w
 gB:∃j:Nat,B.1[j]? =Ja (Nd.c g)
 ih:(wayG B g).E= .r (wayG B g).E.no/\(wayG B g).E.no<h
 inR:∀p∈(wayG B g).R,p∈ps
 inL:∀p∈(wayG B g).L,p∈ps
 len:(wayG B g).L.length<=ps.length
 a1:1<=amt x r c (wayG B g) g
 ar:amt x r c (wayG B g) g<=r (wayG B g).E.no
 fill:Fill ps h w R C (incs (-amt x r c (wayG B g) g) (wayG B g).L (incs (amt x r c (wayG B g) g) (wayG B g).R x)) (upd r (wayG B g).E.no (r (wayG B g).E.no-amt x r c (wayG B g) g)) (upd c g<|c g-amt x r c (wayG B g) g)
 less:((Qc h).map (upd r (wayG B g).E.no (r (wayG B g).E.no-amt x r c (wayG B g) g))).sum=((Qc h).map r).sum-amt x r c (wayG B g) g
theorem rB(S:Sz ps h w)(F:Fill ps h w R C x r c)(P:goalF w c (cameF ps h x r)=g::gs):Turn ps h w R C x r c (cameF ps h x r) g:=by
 obtain⟨b,o0⟩:=mO (x:=x) (r:=r) S;generalize cameF ps h x r=B at b P ⊢;have O:=S.h8;have w8:=S.w8;have m:g∈goalF w c B:=P▸ .head _;obtain⟨G,E⟩:=Qi.mp m;obtain⟨L,d⟩:=Qi.mp G;have v:=Qg.mp L;have o:0<c g:=Uf E;have X:Nd.c g∈B.1:=Uf d;obtain⟨j,H⟩:=Wr X;have hl:=b.len;have K:=(QI.mp H).1;have W:=qw b 17 j (.c g) H (by exact zll K<|zle hl (zb2 (Kg O w8) rfl));generalize Q:wayF B 17 (.c g)=V at W;obtain⟨i,t,l,I⟩:=vd W.e;have n:V.E.no=i:=by rw[t];rfl
 have Z:r V.E.no::c g::V.L.map x≠ []:=λq=>nomatch q
 have A:=iH Z;have J:1<=amt x r c V g:=by
  rcases Qx.mp A.1 with q|q
  ·unfold amt;rw[q,n];exact I
  ·rcases Qx.mp q with q|q
   ·unfold amt;rw[q];exact o
   ·obtain⟨p,D,e⟩:=Ql.mp q;unfold amt;rw[<-e];exact(W.l p D).2
 have U:amt x r c V g<=r V.E.no:=A.2 _<|.head _;have u:amt x r c V g<=c g:=A.2 _<|.tail _ (.head _);have y:∀p∈V.L,amt x r c V g<=x p:=λp D=>A.2 _<|.tail _ (.tail _<|Ql.mpr ⟨p,D,rfl⟩);generalize T:amt x r c V g=a at J U u y;have s:∀f:Pl->Bool,sumOn f ps (incs (-a) V.L<|incs a V.R x)=sumOn f ps x+a*((V.R.countP f:Nat)-(V.L.countP f:Nat):Int):=λf=>by
  rw[fK S.nd λp D=>(W.l p D).1,fK S.nd W.r,Int.mul_sub,Int.neg_mul];exact KT _ _ _
 have less:((Qc h).map (upd r V.E.no<|r V.E.no-a)).sum=((Qc h).map r).sum-a:=by
  rw[KO,lu KC,Uh (Qg.mpr<|by rw[n];exact l)];exact rfl
 refine⟨v,⟨j,H⟩,?_,?_,?_,?_,?_,?_,?_,?_⟩<;>(try rw[wayG])<;>rw[Q]
 ·exact⟨by rw[n];exact t,by rw[n];exact l⟩
 ·exact W.r
 ·exact λp D=>(W.l p D).1
 ·exact tK W.nd λp D=>(W.l p D).1
 ·rw[T];exact J
 ·rw[T];exact U
 ·rw[T];refine⟨λp D=> ?_,λk M=> ?_,λk M=> ?_,λk M=> ?_,λk M=> ?_,?_⟩
  ·have N:=nv (δ:=a) (by exact QN (by decide) J) (R:=V.R) (x:=x) p;have Y:=F.x0 p D;by_cases q:p∈V.L
   ·rw[oH W.nd q];have:=y p q;exact Ws<|QN this N
   ·rw[eS q];exact QN Y N
  ·by_cases q:k=V.E.no
   ·subst q;rw[b6];exact Ws U
   ·rw[cB _ _ q];exact F.r0 k M
  ·by_cases q:k=g
   ·subst q;rw[b6];exact Ws u
   ·rw[cB _ _ q];exact F.c0 k M
  ·have N:=W.row k;dsimp only[cR] at N;rw[dy (p:=Nd.c g= .r k) (λq=>nomatch q)] at N;have Y:=F.row k M;unfold rowS at Y ⊢;rw[s];by_cases q:k=V.E.no
   ·subst q;rw[b6];rw[fG (by rw[n];exact t)] at N;rw[show((V.R.countP λp=>decide (p.1=V.E.no):Nat)-(V.L.countP λp=>decide (p.1=V.E.no):Nat):Int)=1 by exact N,Int.mul_one];exact zr1 Y
   ·rw[cB _ _ q];rw[dy (λz=>q<|by rw[n];rw[t] at z;exact(Nd.r.inj z).symm)] at N;rw[show((V.R.countP λp=>decide (p.1=k):Nat)-(V.L.countP λp=>decide (p.1=k):Nat):Int)=0 by exact N,Int.mul_zero];exact zr2 Y
  ·have N:=W.col k;dsimp only[cC] at N;rw[dy (p:=V.E= .c k) (λq=>by rw[t] at q;cases q)] at N;have Y:=F.col k M;unfold colS at Y ⊢;rw[s];by_cases q:k=g
   ·subst q;rw[b6];rw[fG rfl] at N;rw[show((V.R.countP λp=>decide (p.2=k):Nat)-(V.L.countP λp=>decide (p.2=k):Nat):Int)=1 by exact N,Int.mul_one];exact zr1 Y
   ·rw[cB _ _ q];rw[dy (λz=>q (Nd.c.inj z).symm)] at N;rw[show((V.R.countP λp=>decide (p.2=k):Nat)-(V.L.countP λp=>decide (p.2=k):Nat):Int)=0 by exact N,Int.mul_zero];exact zr2 Y
  ·rw[less,show c g-a=c g+ -a from KO,lu KC,Uh<|Qg.mpr v,F.eq];exact rfl
 ·rw[T];exact less
theorem j0(S:Sz ps h w):∀ (f:Nat) (x:Pl->Int) (r c:Nat->Int),Fill ps h w R C x r c->((Qc h).map r).sum.toNat<f->Good ps h w R C (outF ps h w f x r c)
 |0=>λx r c o0 j=>absurd j<|Wn _
 |f+1=>λx r c F j=>by
  show Good ps h w R C (if((Qc h).map r).sum>0 then outG _ _ _ else .tab x);by_cases s:((Qc h).map r).sum>0
  ·rw[Uh s]
   induction e:goalF w c (cameF ps h x r) using List.casesOn with
   |nil=>exact Bu S F s e
   |cons g y=>
    have T:=rB S F e;refine j0 S f _ _ _ T.fill ?_;exact zll (ztn s T.a1 T.less)<|zs j
  ·rw[Ug s];have z1:=qJ (f:=r) (l:=Qc h) (λi t=>F.r0 i<|Qg.mp t) (by exact KF.mp s);have z2:=qJ (f:=c) (l:=Qc w) (λi t=>F.c0 i<|Qg.mp t) (by rw[<-F.eq];exact KF.mp s);refine⟨F.x0,λi t=> ?_,λi t=> ?_⟩
   ·have:=F.row i t;rw[z1 i (Qg.mpr t)] at this;exact(Kf _).symm.trans this
   ·have:=F.col i t;rw[z2 i (Qg.mpr t)] at this;exact(Kf _).symm.trans this
end
theorem vB{G:Gx}{c:DCl}{L:DRho}{K:DRho->Prop}(a:List E)(x:String)(b:List E):dio G c f L K (Ja (a,x,b))=(G.fn f=Jc/\dwes G c a L (λv=>offs x v=Jc/\dOE (λp=>p.2=Jc/\dwes G c b L (λq=>offs x q=Jc/\
   c.io f v.length (lent v++(p.1,Jc)::lent q) λd=>K (L.put x (d,Jc))) λo0 o0=>False) (L.get x)) λo0 o0=>False):=rfl
theorem yD(d:D)(l:List D):D.eqv (.list (d::l)) (.list [])=Jd:=rfl
theorem qe(d:D)(l:List D):dsub (.list (d::l)) (.int 0)=Ja d:=ir (l:=d::l) (j:=0) rfl
theorem ints2{L:Type}(g:L->Int)(a b:Int)(l:List L):dInts (.int a:: .int b::l.map λp=> .int (g p))=Ja (a::b::l.map g):=by
 show((dInts<|l.map λp=> .int (g p)).map (b:: ·)).map (a:: ·)=_;rw[eH];rfl
theorem o9{L:DRho}{d:D}{K:DRho->Prop}:dput L x [] d K=dOE (λo0=>K (L.put x (d,Jc))) (L.get x):=rfl
theorem l0{r:Nat->Int}(hi:i<h)(v:Int):D.list ((((Qc h).map r).map D.int).set i (.int v))=dI ((Qc h).map (upd r i v)):=by
 rw[<-List.map_set]
 congr 2
 refine WI λk=> ?_;rw[Wo,Qd,Qt,Uh hi,Qw,Qw];by_cases q:i=k
 ·subst q;rw[Uh rfl,Wu hi];show Ja v=Ja (upd r i v i);rw[b6]
 ·rw[Ug q]
  induction M:(Qc h)[k]? with
  |none=>rfl
  |some m=>
   have L:m=k:=by
    obtain⟨N,p⟩:=QI.mp M;rw[Wa] at p;exact p.symm
   show Ja (r m)=Ja (upd r i v m);rw[cB _ _ (by rw[L];exact λz=>q z.symm)]
theorem f6{r:Nat->Int}(hi:i<h):dsub (dI ((Qc h).map r)) (.int i)=Ja (.int (r i)):=by
 rw[eE (by rw[Qd,Qt];exact hi),dF _ hi]
theorem Bl(c:List (List (Option Int)))(h w:Nat):(psF c h w).Nodup:=by
 refine List.Pairwise.filter _ ?_;show(allF h w).Nodup
 induction h with
 |zero=>exact .nil
 |succ h i=>
  refine Qv.mpr ⟨i,?_,λa T b R q=> ?_⟩
  ·rw[QT,Wp];exact(QT.mp KC).imp λh q=>h (Prod.mk.inj q).2
  ·subst q;obtain⟨j,o0,rfl⟩:=Ql.mp R;exact absurd (allF_mem.mp T).1 (KG _)
theorem hZ(y:h<=8)(T:w<=8):(psF c h w).length<=64:=by
 refine QD (KY _ _) ?_;rw[iu];exact Yi y T
theorem gG(R:Rect c h w):Sz (psF c h w) h w:=⟨Bl c h w,λp D=>⟨(hH D).1,(hH D).2.1⟩,R.h8,R.w8⟩
def outV(c:List (List (Option Int)))(r s:List Int)(h w:Nat):Out:=outF (psF c h w) h w (((Qc h).map (r1F c r)).sum.toNat+1) (λo0=>0) (r1F c r) (r2F c s)
theorem tG(f:Pl->Bool)(ps:List Pl):sumOn f ps (λo0=>0)=0:=ik _
theorem fill0(V:VOK c r s h w):Fill (psF c h w) h w (r1F c r) (r2F c s) (λo0=>0) (r1F c r) (r2F c s):=
 ⟨λp o0=>Kc _,V.n1,V.n2,λi o0=>by rw[rowS,tG,We],λi o0=>by rw[colS,tG,We],V.eq⟩
theorem lE{y:Nd}(W:y∈allN h w):(y.isR=Jc->y.no<h)/\(y.isR=Jd->y.no<w):=by
 rcases Qr.mp W with q|q
 ·obtain⟨i,t,rfl⟩:=Ql.mp q;exact⟨λo0=>Qg.mp t,λz=>(tf z)⟩
 ·obtain⟨i,t,rfl⟩:=Ql.mp q;exact⟨λz=>(ft z),λo0=>Qg.mp t⟩
theorem yO{x:Pl->Int}{r c:Nat->Int}(s:((Qc h).map r).sum>0)(g:goalF w c (cameF ps h x r)=[]):
  outF ps h w (f+1) x r c= .no (λi=>decide<|Nd.r i∈(cameF ps h x r).1) (λj=>decide<|Nd.c j∈(cameF ps h x r).1):=by
 refine(Uh s).trans ?_;rw[g];rfl
theorem y9{x:Pl->Int}{r c:Nat->Int}(s:((Qc h).map r).sum>0)(S:goalF w c (cameF ps h x r)=g::gs):
  outF ps h w (f+1) x r c=outF ps h w f (incs (-amt x r c (wayG (cameF ps h x r) g) g) (wayG (cameF ps h x r) g).L (incs (amt x r c (wayG (cameF ps h x r) g) g) (wayG (cameF ps h x r) g).R x))
    (upd r (wayG (cameF ps h x r) g).E.no (r (wayG (cameF ps h x r) g).E.no-amt x r c (wayG (cameF ps h x r) g) g)) (upd c g<|c g-amt x r c (wayG (cameF ps h x r) g) g):=by
 refine(Uh s).trans ?_;rw[S];rfl
theorem wp{x:Pl->Int}{r c:Nat->Int}(s:¬ ((Qc h).map r).sum>0):outF ps h w (f+1) x r c= .tab x:=by
 exact Ug s
inductive CtI(ps:List Pl)(h w:Nat)(Rr Cc:Nat->Int)(O:Out)(vw pl nr:D)(k:Nat)(Δ:DRho):Prop
 |mk (x:Pl->Int) (ρ γ:Nat->Int) (f:Nat) (cv cn:Bool) (u1 u2 u3 u4 u5 u6 u7:Option (D×Bool)) (F:Fill ps h w Rr Cc x ρ γ) (hk:((Qc h).map ρ).sum.toNat=k) (hf:k<f) (hO:outF ps h w f x ρ γ=O)
  (e:Δ=(Nb "view" cv vw<|Nb "places" Jd pl<|Nb "near" cn nr<|Nb "counts" Jc (dCt ps x)<|No "place" u7<|Nb "rows" Jc (dI<|(Qc h).map ρ)<|Nb "columns" Jc (dI<|(Qc w).map γ)<|No "came" u1<|No "goals" u2<|No "raised" u3<|No "lowered" u4<|No "start" u5<|No "amount" u6<|[])):CtI ps h w Rr Cc O vw pl nr k Δ
section
variable{C:Cx}{mg mb:Jq->Option Jf}{n:Nat}{Q:D->Bool->Prop}{X:DX}
theorem jc(e:Env1 C G1 mg mb)(V:VOK c r s h w)(v:∀x,outV c r s h w= .tab x->Q (dCt (psF c h w) x) Jc)
  (W:∀pa pb,outV c r s h w= .no pa pb->X "NoTable" [dNs ((Qc h).filter pa),dNs ((Qc w).filter pb)]):aR (aO C<|n+3) "counts_of" [(.tup [dC c,dI r,dI s],b)] Q X:=by
 refine e.fn fX (bo 15 rfl) rfl λcl cu PQ PX G=> ?_;dsimp only[fX];dsimp only[aX,b8,bp];have S:=gG V.R;have F0:=fill0 V;have l:(psF c h w).length<=64:=hZ V.R.h8 V.R.w8;unfold outV at v W;refine bt ?_
 (dsimp only[aL,flags,aA,aH,aY,aE,aI,aW,aQ,aN,aD,aG,Qa,aJ,aC,aB,aK,bG,tgl,bu,bH,bv,bD,cS,cm,bw,aS,bL,b9,bN];refine⟨rfl,?_⟩)
 refine G.hc<|hA e V.R ?_;dsimp only[aB,bw,bE,aF,aM,Qa,aP,aC];generalize psF c h w=I at S F0 l v W ⊢;generalize hR:r1F c r=M at F0 v W ⊢;generalize hC:r2F c s=Cc at F0 v W ⊢;generalize P:outF I h w (((Qc h).map M).sum.toNat+1) (λo0=>0) M Cc=O at v W;have U:h+w<=16:=Kg S.h8 S.w8;refine bt ?_
 (dsimp only[aL,flags,aA,aH,aY,aE,aI,aW,aD,aG,Qa,aJ,aC,aB,aK,bw,aS,bL,b9,bN];refine⟨rfl,?_⟩)
 refine G.hc (t8 e l λns N=> ?_);dsimp only[aB,dg,bE,aF,aM,Qa,aP,aC];refine bt ?_
 (dsimp only[j9,bE,aF,aM,Qa,aP,aC,aB];refine⟨rfl,?_⟩)
 refine d3 (.inl rfl) ?_;dsimp only[fsts,aA,aH,aY,aE,aI,aW,cZ,aD,aG,Qa,aJ,aC,aB,aK,bw,bL,je,jI,jv,jJ,gD,bu,bH,bv,bD,jQ,eg,jN,et,jl,jD,c4];refine dK dP (λi Δ=>∃u,Δ=(Nb "view" b (.tup [dC c,dI r,dI s])<|Nb "places" Jd (.list<|I.map dP)<|Nb "near" Jc (md Nd.key (nearG I) ns)<|Nb "counts" Jc (dCt (I.take i)<|λo0=>0)<|No "place" u<|No "rows" Jb<|No "columns" Jb<|No "came" Jb<|No "goals" Jb<|No "raised" Jb<|No "lowered" Jb<|No "start" Jb<|No "amount" Jb<|[])) _ _ ⟨_,rfl⟩ ?_ ?_
 ·rintro j p Δ d ⟨u,rfl⟩ K kn;have ab:=rA S.nd d;dsimp only[cr,aM,Qa,aP,aC,aB,bT];refine lL ce (a:=p) (g:=λo0=> .int 0) (xs:=I.take j) (dk:=dP p) (dv:= .int 0) rfl (S.nd.sublist<|List.take_sublist _ _) (c9<|by rw[List.length_take];exact zl (Yt _ _)<|zb1 l rfl) (c3 p) (λQ q=> ?_) (λQ X q=> ?_) ?_
  ·exact⟨rfl,q⟩
  ·dsimp only[aD,aG,Qa,aJ,aC,aB,aK];exact q
  ·dsimp only[aM,Qa,aP,aC,aB];refine kn _ ⟨Ja (dP p,Jc),?_⟩;rw[iz d,pe ab,show upd (λo0=>D.int 0) p (.int 0)=λo0=>D.int 0 from by funext z;unfold upd;split<;>rfl];rfl
 rintro Δ ⟨u0,rfl⟩;rw[KR];refine hX ?_;refine dS ?_
 (dsimp only[aL,flags,aA,aH,aY,aE,aI,aW,aD,aG,Qa,aJ,aC,aB,aK,bG,tgl,bu,bH,bv,bD,aS,bL,b9,bN];refine⟨rfl,?_⟩)
 refine G.hc<|rr e V.R V.hr V.hs ?_;dsimp only[aB,bG,tgl,bu,bH,bv,bD,aC,aF,bE,iS,aM,Qa,aP,bT];rw[hR,hC];refine jr rfl (((Qc h).map M).sum.toNat+1) ?_;refine gK (CtI I h w M Cc O (.tup [dC c,dI r,dI s]) (.list<|I.map dP)<|md Nd.key (nearG I) ns)
  ?_ _ ((Qc h).map M).sum.toNat _ (QW _) ⟨λo0=>0,M,Cc,_,_,_,_,_,_,_,_,_,_,F0,rfl,QW _,P,rfl⟩
 rintro k Δ ⟨x,L,t,f,cv,cn,u1,u2,u3,u4,u5,u6,u7,F,hk,hf,P,rfl⟩ K kn;clear F0;obtain⟨f,rfl⟩:∃f',f=f'+1:=⟨f-1,by exact zpr hf⟩
 (dsimp only[aU,br,aN,bk,gz,ki,aA,aE,b5,aD,aG,Qa,aJ,aC,aB,aK,dz];refine⟨.inr rfl,?_⟩)
 refine gH (eV _) ?_;refine cW (λA=> ?_) λA=> ?_
 rotate_left
 ·rw[wp A] at P;refine hX ?_;refine df ?_
  (dsimp only[cA,aM,Qa,aP,aC,aB,aG,aJ,aK,eg];refine⟨rfl,?_⟩)
  exact G.qr<|v x P.symm
 have J:Bfs I x (stF h L) h w (bfsF I x<|stF h L):=(mO (x:=x) (r:=L) S).1;have Z:=J.len;refine bt ?_
 (dsimp only[aL,flags,aA,aH,aY,aE,aI,aW,fQ,aF,bl,aD,aG,Qa,aJ,aC,aB,aK,dg,aS];refine⟨rfl,?_⟩)
 refine cK (.inl rfl) ?_
 (dsimp only[fsts,aA,aH,aY,aE,aI,aW,bk,bS,bl,gy,gx,b5,aD,aG,Qa,aJ,aC,aB,aK,cw,cE];refine⟨.inr rfl,?_⟩)
 rw[Qd,Qd,Qt];refine⟨rg S.h8,eW (λk=>dN<|.r k) (λi=>decide<|L i>0) (λi hi=> ?_) ?_⟩
 ·dsimp only[bI,cV,cr,aP,Qa,aM,aC,aB,bT];refine⟨λT hT=> ?_,λo0 K k=> ?_⟩
  ·dsimp only[tstD];dsimp only[aU,br,aN,aQ,aD,aJ,Qa,aG,aC,aB,aK];refine aZ (f6 hi) ?_;dsimp only[ki];exact hT
  ·dsimp only[elD];dsimp only[bM,fsts,dtup,aA,aH,aT,aY,aE,aI,aV,aW,aD,aJ,Qa,aG,aC,aB,aK,bA,bl,cg];refine gY ?_
   (dsimp only[bl];refine⟨by decide,?_⟩)
   exact k
 rw[show(((Qc h).filter λi=>decide<|L i>0).map λk=>dN<|.r k)=(stF h L).map dN from by rw[stF,QB];rfl];dsimp only[aF,bl,bL,b9,eL,bN];refine G.hc<|jU (ban:=Jb) e N S.mem S.h8 S.w8 (xY h L) vq ?_;rw[xB];dsimp only[aB,dg,bE,aF,aM,Qa,aP,aC];generalize hB:bfsF I x (stF h L)=B at J Z ⊢;refine bt ?_;refine cK (.inl rfl) ?_
 (dsimp only[fsts,aA,aH,aY,aE,aI,aW,cZ,aL,flags,cg,aD,aG,Qa,aJ,aC,aB,aK,dg,aS];refine⟨rfl,?_⟩)
 refine gj ?_;dsimp only[aF,bl,bL,b9,bN];refine G.hc<|lx (b:=Jd) (m:=w) e J.nd (by exact zle Z U) (λy o hr=>(lE<|J.val y o).2 hr) ?_;dsimp only[c4,aB,bw,bl];refine cN (λ(k:Nat)=> .int (k:Int)) (λ(k:Nat)=> .int (k:Int)) (λj=>decide<|t j>0) (λj d=> ?_) ?_
 ·have d:=Qg.mp (Qi.mp d).1;dsimp only[bI,cV,cr,aP,Qa,aM,aC,aB,bT];refine⟨λT hT=> ?_,λo0 K k=> ?_⟩
  ·dsimp only[tstD];dsimp only[aU,br,aN,aQ,aD,aJ,Qa,aG,aC,aB,aK];refine aZ (f6 d) ?_;dsimp only[ki];exact hT
  ·dsimp only[elD];dsimp only[aD,aJ,Qa,aG,aC,aB,aK,bA];exact k
 dsimp only[bE,aF,aM,Qa,aP,aC,aB];have Y:((numF Jd w B.1).filter λj=>decide<|t j>0)=goalF w t (cameF I h x L):=by rw[show cameF I h x L=B from hB];rfl
 rw[Y]
 induction hg:goalF w t (cameF I h x L) using List.casesOn with
 |nil=>
  rw[yO A hg,show cameF I h x L=B from hB] at P;refine ca ?_
  (dsimp only[aI,aU,br,cM,deq,bJ,fsts,dnew,aE,aV,aD,aG,Qa,aJ,aC,aB,aK];refine⟨by decide,⟨rfl,rfl⟩,?_⟩)
  refine kH ⟨rfl,rfl,.inr ⟨rfl,rfl⟩⟩ ?_
  (dsimp only[fsts,aA,aY,aH,aE,aW,aI,aL,flags,cg,aD,aG,Qa,aJ,aC,aB,aK,dg,aS];refine⟨rfl,?_⟩)
  refine gY ?_;dsimp only[aF,bl,bL,b9,bN];refine G.hc<|lx (b:=Jc) (m:=h) e J.nd (by exact zle Z U) (λy o hr=>(lE<|J.val y o).1 hr) ?_
  (dsimp only[aB,bw,bl];refine⟨rfl,?_⟩)
  refine gj ?_;dsimp only[aF,bl,bL,b9,bN];refine G.hc<|lx (b:=Jd) (m:=w) e J.nd (by exact zle Z U) (λy o hr=>(lE<|J.val y o).2 hr) ?_
  (dsimp only[aB,bw,bl];refine⟨rfl,?_⟩)
  exact G.qx<|W _ _ P.symm
 |cons g gs=>
  have T:=rB S F hg;rw[y9 A hg] at P;rw[show cameF I h x L=B from hB] at T P;have ae:=U;obtain⟨jg,ad⟩:=T.gB;refine ca ?_
  (dsimp only[aH,aU,br,cM,deq,bJ,fsts,dnew,aE,aI,aV,aD,aG,Qa,aJ,aC,aB,aK];refine⟨by decide,?_⟩)
  refine⟨⟨by rw[eh];exact cx _ (λa=>eO _ _) _,rfl⟩,?_⟩;rw[yD];dsimp only[aC];refine dS ?_
  (dsimp only[aL,flags,aA,aH,aY,aE,aI,aW,bM,fsts,dtup,aT,aV,aQ,aN,aD,aG,Qa,aJ,aC,aB,aK,bw,cg,dg,aS];refine⟨rfl,?_⟩)
  refine gj ?_;dsimp only[bl];refine aZ (qe _ _) ?_
  (dsimp only[bA,bl,aF,bL,b9,bN];refine⟨by decide,?_⟩)
  refine G.hc<|vz (y:= .c g) e J U ad ?_;dsimp only[aB,bG,tgl,bu,bH,bv,bD,aC,aF,bE,rY,aM,Qa,aP,bT];refine bt ?_
  (dsimp only[bk,na,aA,aE,xm,bE,aF,aM,Qa,aP,aB,aC,bq,bJ,fsts,dnew,aH,aT,aY,aI,aV,aW,aQ,aN,aD,aG,aJ,aK,bw];refine⟨.inr rfl,?_⟩)
  refine aZ (qW _) ?_;refine aZ (f6 T.ih.2) ?_;dsimp only[bA,bl];refine aZ (qe _ _) ?_;refine aZ (f6 T.gw) ?_
  (dsimp only[bA,bl];refine⟨by decide,?_⟩)
  refine cj (.inl rfl) ?_;dsimp only[fsts,iy,eL,bN,bl,tgl,bu,eG,dt,dnew,aT,dz,aA,aH,aY,aE,aI,aW,cZ,aD,aG,Qa,aJ,aC,aB,aK,bw,bL,c4];refine bR dP (λp=> .int (x p)) (λp hp K k=> ?_) ?_
  ·dsimp only[bI,cV,cr,aP,Qa,aM,aC,aB,bT];dsimp only[elD];dsimp only[aQ,aD,aJ,Qa,aG,aC,aB,aK,dg];refine aZ (cQ ce (c3 p)<|T.inL p hp) ?_;dsimp only[bA];exact k
  refine⟨by rw[Qd];exact eZ (by have:(wayF B 17<|.c g).L.length<=I.length:=T.len;exact zb2 (Kk (zle this l) 2) rfl),?_⟩;refine gH (ints2 _ _ _ _) ?_;refine⟨λq=>(nomatch q),?_⟩;rw[show lmin (L (wayG B g).E.no::t g::(wayF B 17<|.c g).L.map x)=amt x L t (wayG B g) g from rfl];have ac:=T.ar;have H:=T.a1;have E:=T.less;have aa:=T.fill;have R:=T.ih.2;generalize amt x L t (wayG B g) g=a at P ac H E aa ⊢;refine lv ?_;rw[show spl _ _=Ja ([],"counts",[.loc "raised",.loc "lowered",.loc "amount"]) from rfl,vB]
  (dsimp only[aM,Qa,aP,aC,aB,aA,aH,aE,aI,aD,aG,aJ,aK,bA,bw,aV,bN];refine⟨rfl,rfl,rfl,rfl,?_⟩)
  refine G.io<|qf e S.nd l T.inR T.inL ?_;refine rO ?_;dsimp only[aQ,aN,aD,pj,aG,Qa,aJ,aC,aB,aK,bq,bA,bw];rw[qW];dsimp only[cm];refine aZ (f6 R) ?_
  (dsimp only[cT];refine⟨rfl,?_⟩)
  rw[nM]
  (dsimp only[aG,Qa,aJ,aC,aB,aK];refine⟨rfl,?_⟩)
  rw[yN,wW,Qd,Qd,Qt,gJ (show(wayF B 17<|.c g).E.no<h from R),cE,l0 (show(wayF B 17<|.c g).E.no<h from R),o9];dsimp only[aM,Qa,aP,aC,aB,aG,aJ,aK];refine rO ?_;dsimp only[aQ,aN,aD,pj,aG,Qa,aJ,aC,aB,aK,bq,bA,bw];rw[qe];dsimp only[cm];refine aZ (f6 T.gw) ?_
  (dsimp only[cT];refine⟨rfl,?_⟩)
  rw[nM]
  (dsimp only[aG,Qa,aJ,aC,aB,aK];refine⟨rfl,?_⟩)
  rw[yN,wW,Qd,Qd,Qt,gJ T.gw,cE,l0 T.gw,o9];dsimp only[aM,Qa,aP,aC,aB,aG,aJ,aK];refine kn _ _ ?_ ⟨_,_,_,f,cv,cn,_,_,_,_,_,_,_,aa,rfl,?_,P,rfl⟩
  ·exact zq (ztn A H E) hk
  ·exact zll (ztn A H E)<|zle (QS hk) (zs hf)
end
def setG{L:Type}(t:List (List L))(i j:Nat)(v:L):List (List L):=t.set i<|(rowAt t i).set j v
theorem Rect.setG{L:Type}{t:List (List L)}(R:Rect t h w)(hi:i<h){v:L}:Rect (setG t i j v) h w:=by
 refine⟨by rw[Vl.Internal.setG,Yv];exact R.len,λr T=> ?_,R.h1,R.h8,R.w1,R.w8⟩
 rcases List.mem_or_eq_of_mem_set T with q|rfl
 ·exact R.row r q
 ·rw[Yv];exact(R.at_ hi).2
theorem zr(R:Rect t h w)(hi:i<h)(E:j<w)(a b:Nat):cO (setG t i j v) a b=if(a,b)=(i,j) then v else cO t a b:=by
 have l:i<t.length:=by rw[R.len];exact hi
 have r:=(R.at_ hi).2;unfold cO rowAt setG;rw[Wo];by_cases T:i=a
 ·subst T;rw[Uh rfl,Uh l];show((rowAt t i).set j v)[b]?.getD Jb=_;rw[Wo];by_cases H:j=b
  ·subst H;rw[Uh rfl,Uh<|by exact zq E r.symm,Uh rfl];rfl
  ·rw[Ug H,Ug λq=>H (Prod.mk.inj q).2.symm];rfl
 ·rw[Ug T,Ug λq=>T (Prod.mk.inj q).1.symm]
section
variable{G:Gx}{cl cu:DCl}{Δ:DRho}
theorem Ao(R:Rect t h w)(hx:Δ.get x=Ja (dC t,Jc))(hi:i<h)(N:j<w)
  (O:∀Q:D->DRho->Prop,Q (dO v) Δ->dwm G cl e Δ Q)(T:∀ (Q:DQ) X,Q (.int i) Jb->dwe G cl s Δ Q X)(Z:∀ (Q:DQ) X,Q (.int j) Jb->dwe G cl c Δ Q X)
  (k:dwss G cl cu r (Δ.put x (dC<|setG t i j v,Jc)) Q X):dwss G cl cu (.setIdx (.sub (.loc x) s) c e::r) Δ Q X:=by
 refine rO<|O _ ?_;rw[yz,nM,hx,aK];refine⟨rfl,T _ _ ⟨rfl,?_⟩⟩;rw[gA R hi,cm];refine Z _ _ ?_;rw[yN,wW,Qd,(R.at_ hi).2,gJ N,cE];show dOE _ (Δ.get x);rw[hx,aK];show dOD _ (updp [.int i] (λo0=>Ja<|.list (((rowAt t i).map dO).set j (dO v))) (dC t));have u:updp [.int i] (λo0=>Ja<|.list (((rowAt t i).map dO).set j (dO v))) (dC t)=Ja (dC<|setG t i j v):=by
  show(place (t.map dR).length (i:Int)).bind (λH=>((t.map dR)[H]?).bind λx=>Wt (λy=>D.list<|(t.map dR).set H y)<|Ja (.list<|((rowAt t i).map dO).set j (dO v)))=_;rw[Qd,R.len,gJ hi];show((t.map dR)[i]?).bind (λx=>Ja<|D.list ((t.map dR).set i (.list<|((rowAt t i).map dO).set j (dO v))))=_;rw[Qw,(R.at_ hi).1];show Ja (D.list<|(t.map dR).set i (.list<|((rowAt t i).map dO).set j (dO v)))=_;rw[<-List.map_set (f:=dO),show D.list (KM dO<|(rowAt t i).set j v)=dR ((rowAt t i).set j v) from rfl,<-List.map_set];rfl
 rw[u,cm];exact k
end
def fcF(x:Pl->Int)(c:List (List (Option Int)))(ps:List Pl):List (List (Option Int)):=ps.foldl (λt p=>setG t p.1 p.2 (Ja (x p))) c
theorem uP{h w:Nat}{x:Pl->Int}:∀ {ps:List Pl} {c:List (List (Option Int))},Rect c h w->(∀p∈ps,p.1<h/\p.2<w)->Rect (fcF x c ps) h w/\∀a b,cO (fcF x c ps) a b=if(a,b)∈ps then Ja (x (a,b)) else cO c a b
 |[]=>λR o0=>⟨R,λa b=>rfl⟩
 |p::ps=>λR D=>by
  obtain⟨o,r⟩:=D p<|.head _;obtain⟨N,Y⟩:=uP (x:=x) (ps:=ps) (R.setG (j:=p.2) (v:=Ja<|x p) o) λq m=>D q<|.tail _ m;refine⟨N,λa b=>(Y a b).trans ?_⟩;rw[zr R o r];by_cases q:(a,b)∈ps
  ·rw[Uh q,Uh (.tail _ q)]
  ·rw[Ug q];by_cases z:(a,b)=p
   ·rw[Uh z,Uh<|z▸ .head _,z]
   ·rw[Ug z,Ug λy=>(Qx.mp y).elim z q]
def tabV(c:List (List (Option Int)))(x:Pl->Int)(h w:Nat):List (List Int):=(Qc h).map λa=>(Qc w).map λb=>(cO c a b).getD (x (a,b))
theorem xw(R:Rect t h w):t=(Qc h).map λa=>(Qc w).map λb=>cO t a b:=by
 refine(p8 R).trans (Qs λa T=> ?_);have l:=(R.at_<|Qg.mp T).2;refine WM (by rw[l,Qd,Qt]) λi N p=> ?_;rw[Wj,Wa,cO,Qf N];rfl
theorem zE(R:Rect c h w)(x:Pl->Int):dC (fcF x c (psF c h w))=dT (tabV c x h w):=by
 obtain⟨N,p⟩:=uP (x:=x) (ps:=psF c h w) R (gG R).mem;have L:fcF x c (psF c h w)=(Qc h).map λa=>(Qc w).map λb=>Ja ((cO c a b).getD (x (a,b))):=by
  refine(xw N).trans (Qs λa T=>Qs λb H=> ?_);rw[p];by_cases q:(a,b)∈psF c h w
  ·rw[Uh q,(hH q).2.2];rfl
  ·rw[Ug q]
   induction e:cO c a b with
   |some v=>rfl
   |none=>
    refine absurd (Qi.mpr ⟨allF_mem.mpr ⟨Qg.mp T,Qg.mp H⟩,?_⟩) q;show(!(cO c a b).isSome)=Jc;rw[e];rfl
 rw[L,tabV,dC,dT,QB,QB]
 congr 1
 refine Qs λa o0=> ?_;show dR _=dI _;rw[dR,dI,QB,QB];rfl
theorem qG(ps:List Pl):(ps.map pkey).map keyDd=ps.map dP:=by rw[QB];rfl
theorem Ac{M:D->DRho->Prop}(a:E)(l:List E):dwm G cl (.sub a (.tup l)) Δ M=dwe G cl (.sub a (.tup l)) Δ (λd t=>t=Jb/\M d Δ) λo0 o0=>False:=rfl
section
variable{C:Cx}{mg mb:Jq->Option Jf}{n:Nat}{Q:D->Bool->Prop}{X:DX}
theorem g9(e:Env1 C G1 mg mb)(R:Rect c h w){x:Pl->Int}{d b:Bool}(T:Q (dT (tabV c x h w)) Jc):aR (aO C (n+1)) "with_counts" [(.tup [dC c,dI r,dI s],d),(dCt (psF c h w) x,b)] Q X:=by
 refine e.fn eI (bo 16 rfl) rfl λcl cu P PX F=> ?_;dsimp only[eI];dsimp only[aX,b8,bp];have S:=gG R;have l:(psF c h w).length<=64:=hZ R.h8 R.w8;rw[<-zE R] at T;refine bt ?_;refine cj (.inl rfl) ?_;dsimp only[fsts,aA,aH,aY,aE,aI,aW,cZ,aQ,aN,aD,aG,Qa,aJ,aC,aB,aK,bG,tgl,bu,bH,bv,bD,cS,cm,bw,bL,c4];refine bR dR dR (λZ f K k=> ?_) ?_
 ·dsimp only[bI,cV,cr,aP,Qa,aM,aC,aB,bT];dsimp only[elD]
  (dsimp only[bk,g6,aA,aE,b5,aD,aJ,Qa,aG,aC,aB,aK,bw,xg,tgl];refine⟨.inr rfl,?_⟩)
  rw[cJ _ qP];exact k
 dsimp only[bE,aF,aM,Qa,aP,aC,aB];generalize psF c h w=I at S l T ⊢;refine d3 (.inl rfl) ?_
 (dsimp only[fsts,aA,aH,aY,aE,aI,aW,cZ,bk,g6,b5,aD,aG,Qa,aJ,aC,aB,aK,dg,AF,bl,bE,c4];refine⟨.inr rfl,?_⟩)
 refine⟨⟨by rw[Qd];exact eZ<|by exact zb2 l rfl,λq o=> ?_⟩,?_⟩
 ·obtain⟨y,o0,rfl⟩:=Ql.mp o;exact eZ (show 2<=1000 by decide)
 rw[qG];refine dK dP (λi Δ=>∃u v,Δ=(Nb "view" d (.tup [dC c,dI r,dI s])<|Nb "counts" b (dCt I x)<|Nb "table" Jc (dC<|fcF x c (I.take i))<|No "row" u<|No "column" v<|[])) _ _ ⟨_,_,rfl⟩ ?_ ?_
 ·rintro j p Δ H ⟨u,v,rfl⟩ K m;have D:=QE H;obtain⟨g,o0⟩:=uP (x:=x) (ps:=I.take j) R λq o=>S.mem q<|List.mem_of_mem_take o;rw[show fcF x c (I.take<|j+1)=setG (fcF x c<|I.take j) p.1 p.2 (Ja<|x p) from jT _ c H] at m;generalize fcF x c (I.take j)=t at g m ⊢;obtain⟨a,U⟩:=S.mem p D;dsimp only[dP];dsimp only[gD,bu,eG,bv,dt,iS,aM,Qa,aP,aC,aB,bT];refine Ao (i:=p.1) (j:=p.2) (v:=Ja<|x p) g rfl a U (λQ q=> ?_) (λQ X q=> ?_) (λQ X q=> ?_) ?_
  ·rw[Ac]
   (dsimp only[aQ,bM,fsts,dtup,aA,aH,aT,aE,aI,aV,aD,aG,Qa,aB,aC,aK,dg];refine⟨by decide,?_⟩)
   refine aZ (cQ ce (show keyD (.tup [.int (p.1:Int),.int (p.2:Int)])=Ja (pkey p) from rfl) D) ?_
   (dsimp only[bA];refine⟨rfl,?_⟩)
   exact q
  ·dsimp only[aD,aG,Qa,aC,aB,aK,bA];exact q
  ·dsimp only[aD,aG,Qa,aB,aC,aK,bA];exact q
  ·dsimp only[aM,Qa,aC,aB];exact m _ ⟨_,_,rfl⟩
 ·rintro Δ ⟨u,v,rfl⟩;rw[KR];refine hX ?_;refine df ?_
  (dsimp only[cA,aM,Qa,aP,aC,aB,aG,aJ,aK,bH];refine⟨rfl,?_⟩)
  exact F.qr T
theorem uJ(e:Env1 C G1 mg mb)(V:VOK c r s h w)(t:∀x,outV c r s h w= .tab x->Q (dT (tabV c x h w)) Jc)
  (k:∀p Y,outV c r s h w= .no p Y->X "NoTable" [dNs ((Qc h).filter p),dNs ((Qc w).filter Y)]):aR (aO C<|n+5) "filled" [(.tup [dC c,dI r,dI s],b)] Q X:=by
 refine e.fn jy (bo 17 rfl) rfl λcl cu P PX g=> ?_;dsimp only[jy];dsimp only[aX,b8,bp];refine fS ?_
 (dsimp only[aL,flags,aA,aH,aE,aI,aD,aG,Qa,aB,aK,bG,tgl,bu,bH,bv,bD,aC,aS];refine⟨rfl,?_⟩)
 refine g.hc<|gO e V ?_;refine bK ?_
 (dsimp only[aL,flags,aA,aH,aY,aE,aI,aW,aD,aG,Qa,aB,aK,bG,tgl,bu,bH,bv,bD,aC,aS,bL,b9,bN];refine⟨rfl,rfl,?_⟩)
 refine g.hc (jc e V (λx hx=> ?_) λp Y hx=>g.qx<|k p Y hx);dsimp only[aB,dg,aF,bl,bL,b9,bN];exact g.hc<|g9 e V.R (g.qr<|t x hx)
theorem uc{G:Gx}{cl cu:DCl}{Δ:DRho}{Q:bY}{X:DSX}{b h r:List S}{c x:String}(U:G.full=Jc/\G.calm=Jc/\G.cs.contains c=Jc)
  (w:dwss G cl cu b Δ (donFl (λi=>dwss G cl cu r i Q X) Q) λe es i=>if G.sub e c then dwss G.un cu cu h (if x="" then i else i.put x (.exc e es,Jc)) (λfl J=>donFl (λi=>dwss G cl cu r i Q X) Q fl<|if x="" then J else J.wipe) λo0 o0 o0=>False else False):
  dwss G cl cu (.try1 b c x h::r) Δ Q X:=⟨U,w⟩
end
theorem Bj{f:List D->List D}{ok:Nat->Prop}(l:List D):kc f ok t Q (.list l)=Q (.list (f l)) (tgl (f l) t):=rfl
theorem ej{L:Type}(l:List L)(j:Nat):(l.drop j++l.take j).Perm l:=by
 have:=List.perm_append_comm (l₁:=l.drop j) (l₂:=l.take j)
 rwa [List.take_append_drop] at this
theorem vG{l m:List Int}(h:l.Perm m):l.sum=m.sum:=by
 induction h with
 |nil=>rfl
 |cons a h ih=>rw[QK,QK,ih]
 |swap a b l=>rw[QK,QK,QK,QK];exact Int.add_left_comm _ _ _
 |trans h1 h2 i1 i2=>exact i1.trans i2
noncomputable def newS(r:List Int)(f:Nat->Int)(l:List Int)(h:Nat):List Int:=(Qc h).map λk=>r[k]?.getD 0-f k+l[k]?.getD 0
theorem get_mem{l:List Int}(h:k<l.length):l[k]?.getD 0∈l:=by rw[Qf h];exact KQ _
theorem hJ(l:List Int):(Qc l.length).map (λk=>l[k]?.getD 0)=l:=by
 refine WM (by rw[Qd,Qt]) λi N h=> ?_;rw[Wj,Wa,Qf h];rfl
theorem tY(q:k<h):r1F c (newS r (r1F c r) l h) k=l[k]?.getD 0:=by
 unfold r1F newS;rw[dF _ q];dsimp only;exact zr3 _ _ _
theorem uE(q:k<h):r2F c (newS r (r2F c r) l h) k=l[k]?.getD 0:=by
 unfold r2F newS;rw[dF _ q];dsimp only;exact zr3 _ _ _
theorem xd(V:VOK c r s h w){l m:List Int}(T:l.length=h)(L:m.length=w)(F:∀i∈l,0<=i)(nm:∀i∈m,0<=i)(e:l.sum=m.sum):
  VOK c (newS r (r1F c r) l h) (newS s (r2F c s) m w) h w:=by
 refine⟨V.R,by rw[newS,Qd,Qt],by rw[newS,Qd,Qt],V.nc,λi t=> ?_,λi t=> ?_,λk q=> ?_,λk q=> ?_,?_⟩
 ·obtain⟨k,q,rfl⟩:=Ql.mp t;have q:=Qg.mp q;have N:=F _<|get_mem (k:=k) (by exact zq q T.symm);have p:0<=((rowAt c k).filterMap id).sum:=by
   rw[ib];refine gQ λo d=> ?_
   induction o with
   |none=>exact Kc 0
   |some v=>exact V.nc _ (QE (V.R.at_ q).1) v d
  unfold r1F;exact zr7 N p
 ·obtain⟨k,q,rfl⟩:=Ql.mp t;have q:=Qg.mp q;have N:=nm _<|get_mem (k:=k) (by exact zq q L.symm);have p:0<=(c.filterMap λZ=>Z[k]?.getD Jb).sum:=by
   rw[ib];refine gQ λZ f=> ?_;rw[Qf (by rw[V.R.row Z f];exact q)];cases d:Z[k]'(by rw[V.R.row Z f];exact q) with
   |none=>exact Kc 0
   |some v=>exact V.nc Z f v<|d▸KQ _
  unfold r2F;exact zr7 N p
 ·rw[tY q];exact F _<|get_mem (by exact zq q T.symm)
 ·rw[uE q];exact nm _<|get_mem (by exact zq q L.symm)
 ·rw[Qs λk q=>tY<|Qg.mp q,Qs λk q=>uE (Qg.mp q)];have a:=hJ l;have b:=hJ m;rw[T] at a;rw[L] at b;rw[a,b];exact e
section
variable{C:Cx}{mg mb:Jq->Option Jf}{n:Nat}{Q:D->Bool->Prop}{X:DX}
noncomputable def mostF(p:Bool):Int:=4+if p=Jc then 1 else 0
theorem s0(p:Bool):∃m:Nat,mostF p=m/\0<m/\m<=6:=by
 rcases p with⟨⟩
 ·exact⟨4,rfl,by decide,by decide⟩
 ·exact⟨5,rfl,by decide,by decide⟩
theorem yX(e:Env1 C G1 mg mb){ns:List Int}(h:ns.length<=63)(k:∀m:Nat,0<m->m<=6->Q (.int (m:Int)) Jc):aR (aO C (n+2)) "_law_most" [(.scr ns,b)] Q X:=by
 refine e.fn f9 (bo 25 rfl) rfl λl c P PX g=> ?_;dsimp only[f9];dsimp only[aX,b8,bp];refine bt ?_
 (dsimp only[aL,flags,aA,aH,aY,aE,aI,aW,aN,aF,bl,aD,aG,Qa,aJ,aC,aB,aK,fN,bL];refine⟨rfl,?_⟩)
 refine g.hc<|dc e h ?_;dsimp only[aB,bA,bE,aF,aM,Qa,aP,aC];refine bK ?_
 (dsimp only[bq,bk,nh,aA,aE,b5,aU,br,cM,deq,aN,aD,aG,Qa,aB,aC,aK,bA,cy,bX,cI,aF];refine⟨.inr rfl,by decide,⟨rfl,rfl⟩,?_⟩)
 obtain⟨m,T,N,p⟩:=s0<|decide ((mixF ns 5).fmod 9=0);have z:=k m N p;rw[<-T] at z;exact g.qr z
theorem xI(e:Env1 C G1 mg mb){ns:List Int}(s:ns.length<=63)(k:∀h w,1<=h->h<=8->1<=w->w<=8->Q (dT (tabF ns h w)) Jc):aR (aO C (n+4)) "_law_drawn" [(.scr ns,b)] Q X:=by
 refine e.fn fA (bo 26 rfl) rfl λl c P PX g=> ?_;dsimp only[fA];dsimp only[aX,b8,bp];refine bt ?_
 (dsimp only[aL,flags,aA,aH,aY,aE,aI,aW,aD,aG,Qa,aJ,aC,aB,aK,fN,aF,bl,bL];refine⟨rfl,?_⟩)
 refine g.hc (yX e s λm K V=> ?_);dsimp only[aB,bA,bE,aF,aM,Qa,aP,aC];refine bK ?_
 (dsimp only[aL,flags,aA,aH,aY,aE,aI,aW,bq,aD,aG,Qa,aB,aC,aK,bA,aN,aF,bl,fN,bL];refine⟨rfl,rfl,?_⟩)
 refine g.hc<|dc e s ?_;dsimp only[cy,cI,aF,bl];refine⟨by exact Yg<|QZ.mpr K,?_⟩;refine⟨rfl,?_⟩;refine g.hc<|dc e s ?_;dsimp only[cy,cI,aF,bl,bL];refine⟨by exact Yg<|QZ.mpr K,?_⟩;obtain⟨i,T,d⟩:=pV (a:=mixF ns 0) (b:=m) K;obtain⟨R,F,H⟩:=pV (a:=mixF ns 1) (b:=m) K;rw[T,F,show(1:Int)+i=((i+1:Nat):Int) by exact Kx _ _,show(1:Int)+R=((R+1:Nat):Int) by exact Kx _ _];refine g.hc<|sX e s (zle d<|zb2 V rfl) (zle H<|zb2 V rfl) ?_;dsimp only[aB,bw,aF];exact g.qr<|k (i+1) (R+1) (Ye _) (zle d<|zb2 V rfl) (Ye _) (zle H<|zb2 V rfl)
theorem pL(e:Env1 C G1 mg mb){ns:List Int}(h:ns.length<=63)(B:1<=m)(E:m<=8)(y:0<=t){d H W Y:Bool}(Z:∀l:List Int,l.length=m->(∀i∈l,0<=i)->l.sum=t->Q (dI l) Jc):
  aR (aO C<|n+2) "_law_shared" [(.scr ns,d),(.int k,H),(.int m,W),(.int t,Y)] Q X:=by
 refine e.fn eJ (bo 40 rfl) rfl λM J P PX g=> ?_;dsimp only[eJ];dsimp only[aX,b8,bp];refine bt ?_
 (dsimp only[bJ,fsts,dnew,aE,aI,aV,aW,bE,aF,aM,Qa,aP,aC,aB];refine⟨by decide,?_⟩)
 refine bt ?_;dsimp only[aD,aG,Qa,aJ,aC,aB,aK,bA,bE,aF,aM,aP];refine d3 (.inl rfl) ?_;dsimp only[fsts,aA,aH,aY,aE,aI,aW,aD,aG,Qa,aJ,aC,aB,aK,bA,bl,bE,gy,gx];refine⟨rg E,?_⟩;refine dY (λj L=>X4 λ(l:List Int) (left:Int) (u v:Option (D×Bool))=>A6 (l.length=j) ((∀i∈l,0<=i)) (0<=left) (l.sum+left=t) ((j=m->left=0))<|L=(Nb "_law_script" d (.scr ns)<|Nb "_law_k" H (.int k)<|Nb "_law_many" W (.int m)<|Nb "_law_total" Y (.int t)<|Nb "_law_parts" Jc (dI l)<|Nb "_law_left" Jc (.int left)<|No "_law_number" u<|No "_law_part" v<|No "_law_at" Jb<|[]))
  ⟨[],t,_,_,rfl,λi V=>(bQ V),y,by simp,λq=>absurd q<|by exact Kn B,rfl⟩ ?_ ?_
 ·rintro j L F ⟨l,left,u,v,T,c,U,s,o0,rfl⟩ K S;dsimp only[cr,aM,Qa,aP,aC,aB,bT];have f:∀part:Int,0<=part->part<=left->(j+1=m->part=left)->dwss G1 M J [.expr (.meth (.loc "_law_parts") .append [.loc "_law_part"]),.assign (.name "_law_left") (.bin .sub (.loc "_law_left")<|.loc "_law_part")] (Nb "_law_script" d (.scr ns)<|Nb "_law_k" H (.int k)<|Nb "_law_many" W (.int m)<|Nb "_law_total" Y (.int t)<|Nb "_law_parts" Jc (dI l)<|Nb "_law_left" Jc (.int left)<|Nb "_law_number" Jc (.int j)<|Nb "_law_part" Jc (.int part)<|No "_law_at" Jb<|[]) K λo0 o0 o0=>False:=λpart R I p=>by
   refine jj ?_
   (dsimp only[aG,Qa,aJ,aC,aB,aK,dz,cA,aM,aP,eG];refine⟨trivial,rfl,?_⟩)
   refine⟨by rw[Qd];exact c9<|by exact zl (QS T)<|zll F (zb2 E rfl),?_⟩;refine bt ?_;dsimp only[bq,aD,aG,Qa,aJ,aC,aB,aK,bA,cT,bE,aF,aM,aP];refine S _ ⟨l++[part],left-part,Ja (.int j,Jc),Ja (.int part,Jc),?_,λi V=> ?_,by exact Ws I,?_,λq=> ?_,?_⟩
   ·rw[QJ,T];rfl
   ·rcases Qr.mp V with V|V
    ·exact c i V
    ·rw[Qk.mp V];exact R
   ·rw[WE,QK,List.sum_nil];exact zr13 s
   ·rw[p q];exact Yw _
   ·rw[rk];rfl
  refine bt ?_;dsimp only[aD,aG,Qa,aJ,aC,aB,aK,bA,bE,aF,aM,aP];refine ca ?_;dsimp only[aU,br,bq,aN,aD,aG,Qa,aJ,aC,aB,aK,bA,cT,l5];refine cW (λN=> ?_) λN=> ?_
  ·refine bt ?_
   (dsimp only[bq,aN,aD,aG,Qa,aJ,aC,aB,aK,bA,cI,aL,flags,aA,aH,aY,aE,aI,aW,aF,bl,fN,bL];refine⟨rfl,?_⟩)
   refine g.hc<|dc e h ?_;dsimp only[cy,bE,aF,aM,Qa,aP,aC,aB];refine⟨by exact Yg<|Int.lt_add_one_of_le U,?_⟩;have w:=fF (a:=mixF ns<|k+j) (b:=left+1) (by exact Int.lt_add_one_of_le U);refine ca ?_
   (dsimp only[aU,br,cM,deq,aN,bq,aL,flags,aA,aH,aY,aE,aI,aW,aD,aG,Qa,aJ,aC,aB,aK,bA,cI,aF,bl,fN,bL];refine⟨rfl,?_⟩)
   refine g.hc<|dc e h ?_
   (dsimp only[fq,cy,bX];refine⟨by decide,by decide,by decide,⟨rfl,rfl⟩,?_⟩)
   refine cW (λA=> ?_) λA=> ?_
   ·refine bt ?_
    (dsimp only[aQ,bq,aN,aL,flags,aA,aH,aY,aE,aI,aW,aD,aG,Qa,aJ,aC,aB,aK,bA,cI,aF,bl,fN,bL,bJ,fsts,dnew,aT,aV];refine⟨by decide,rfl,?_⟩)
    refine g.hc<|dc e h ?_
    (dsimp only[fq,cy];refine⟨by decide,by decide,by decide,?_⟩)
    have o:=fF (a:=(mixF ns<|k+j).fdiv 24576) (b:=2) (by decide);refine aZ (show dsub (.list [.int 0,.int left]) (.int<|((mixF ns<|k+j).fdiv 24576).fmod 2)=_ from fM (l:=[0,left]) o.1 o.2) ?_;dsimp only[bA,bE,aF,aM,Qa,aP,aC,aB];have hv:∀q:Nat,q<2->0<=([0,left][q]?.getD 0:Int)/\([0,left][q]?.getD 0:Int)<=left:=λq o=>by
     rcases q with o0|o0|q
     ·exact⟨Kc _,U⟩
     ·exact⟨U,Kc _⟩
     ·exact absurd o<|Kd.mpr (Nat.le_add_left 2 q)
    have:=hv (((mixF ns<|k+j).fdiv 24576).fmod 2).toNat (by exact(Wf o.1).mpr o.2);exact f _ this.1 this.2<|λq=>absurd N<|zls q
   ·exact f _ w.1 (by exact Int.le_of_lt_add_one w.2)<|λq=>absurd N<|zls q
  ·exact f left U (Kc _) λo0=>rfl
 ·rintro L ⟨l,left,u,v,T,c,U,s,z,rfl⟩;have z:=z rfl;refine hX ?_;refine bt ?_
  (dsimp only[bq,aD,aG,Qa,aJ,aC,aB,aK,bA,aL,flags,aA,aH,aY,aE,aI,aW,cI,aF,bl,fN,bL];refine⟨rfl,?_⟩)
  refine g.hc<|dc e h ?_;dsimp only[cy,bE,aF,aM,Qa,aP,aB,aC];refine⟨by exact Yg<|QZ.mpr B,?_⟩;generalize (mixF ns<|k+m).fmod m=at_;refine bK ?_;dsimp only[bq,tF,aD,aG,Qa,aJ,aB,aC,aK,wW,bw,sS];rw[Bj,Bj];generalize cut (l.map D.int).length at_=q;rw[<-List.map_drop,<-List.map_take,iy,<-QF];refine⟨?_,?_⟩
  ·rw[Qd,(ej l q).length_eq];exact eZ<|by exact zle (QS T)<|zb2 E rfl
  ·rw[show tgl ((l.drop q++l.take q).map D.int) _=Jb by unfold tgl;rw[cJ _ k9];rfl];dsimp only[aF];refine g.qr<|Z _ ((ej l q).length_eq.trans T) (λi V=>c i<|(ej l q).mem_iff.mp V) ?_;rw[vG (ej l q)];exact zr15 s z
end
section
variable{C:Cx}{mg mb:Jq->Option Jf}{n:Nat}{Q:D->Bool->Prop}{X:DX}
theorem rV(e:Env1 C G1 mg mb){ns:List Int}(A:ns.length<=63)(k:∀c r s h w,VOK c r s h w->Q (.tup [dC c,dI r,dI s]) Jd):aR (aO C (n+5)) "_law_any_view" [(.scr ns,b)] Q X:=by
 refine e.fn dQ (bo 41 rfl) rfl λH Z I PX g=> ?_;dsimp only[dQ];dsimp only[aX,b8,bp];refine bt ?_
 (dsimp only[aL,flags,aA,aH,aY,aE,aI,aW,aD,aG,Qa,aJ,aC,aB,aK,fN,aF,bl,bL];refine⟨rfl,?_⟩)
 refine g.hc (xI e A λh w E y f U=> ?_);dsimp only[aB,bw,bE,aF,aM,Qa,aP,aC];have R:Rect (tabF ns h w) h w:=t4 E y f U;have N:=Ar ns h w;generalize tabF ns h w=t at R N ⊢;refine bt ?_
 (dsimp only[aL,flags,aA,aH,aY,aE,aI,aW,aD,aG,Qa,aJ,aC,aB,aK,bw,aS,bL,fN,aF,bl,b9,bN];refine⟨rfl,?_⟩)
 refine g.hc<|vm e A R ?_;dsimp only[aB,bw,bE,aF,aM,Qa,aP,aC];generalize placesF ns h w=p;refine bt ?_
 (dsimp only[aL,flags,aA,aH,aY,aE,aI,aW,aD,aG,Qa,aJ,aC,aB,aK,bw,aS,bL,b9,eL,bN];refine⟨rfl,?_⟩)
 refine g.hc<|AA e R ?_;dsimp only[aB,bG,tgl,bu,bH,bv,bD,aC,bE,aF,aM,Qa,aP];have V:=vok R N<|hidF p;rw[viewF];generalize cellsF t (hidF p) h w=c at V ⊢;generalize rsF t=r at V ⊢;generalize csF t w=s at V ⊢;refine ca ?_
 (dsimp only[aU,br,cM,deq,aN,bq,aL,flags,aA,aH,aY,aE,aI,aW,aF,bl,aD,aG,Qa,aJ,aC,aB,aK,fN,bL];refine⟨rfl,?_⟩)
 refine g.hc<|dc e A ?_
 (dsimp only[cy,bX];refine⟨by decide,⟨rfl,rfl⟩,?_⟩)
 refine cW (λY=> ?_) λY=> ?_
 ·refine bK ?_;dsimp only[aD,aG,Qa,aJ,aC,aB,aK,bG,tgl,bu,bH,bv,bD,aS];exact g.qr<|k _ _ _ _ _ V
 refine hX ?_;refine dS ?_
 (dsimp only[aL,flags,aA,aH,aY,aE,aI,aW,aD,aG,Qa,aJ,aC,aB,aK,bG,tgl,bu,bH,bv,bD,aS,bL,b9,bN];refine⟨rfl,?_⟩)
 refine g.hc<|kS (cb:=Jc) e V.R V.hr V.hs ?_;dsimp only[aB,bG,tgl,bu,bH,bv,bD,aC,aF,bE,iS,aM,Qa,aP,bT];refine bt ?_
 (dsimp only[aQ,bq,aN,aL,flags,aA,aH,aY,aE,aI,aW,aF,bl,aD,aG,Qa,aJ,aC,aB,aK,fN,bL,bJ,fsts,dnew,aT,aV,pZ,bk,gz,b5,dz];refine⟨.inr rfl,?_⟩)
 refine gH (eV _) ?_;refine⟨rfl,?_⟩;refine g.hc<|dc e A ?_
 (dsimp only[cy,cI,bl];refine⟨by decide,rfl,?_⟩)
 refine g.hc<|dc e A ?_
 (dsimp only[aB,bA,cy,cI,bl];refine⟨by decide,by decide,by decide,by decide,by decide,rfl,?_⟩)
 refine g.hc<|dc e A ?_
 (dsimp only[fq,cy];refine⟨by decide,by decide,by decide,?_⟩)
 have G:=fF (a:=(mixF ns 7).fdiv 2) (b:=3) (by decide);rw[show∀a b c:Int,dsub (.list [.int a,.int b,.int c]) (.int<|((mixF ns 7).fdiv 2).fmod 3)=_ from λa b c=>fM (l:=[a,b,c]) G.1 G.2];dsimp only[cm,bA,bE,aF,aM,Qa,aP,aC,aB];have W:∀q:Nat,0<=([((Qc h).map (r1F c r)).sum,1+(mixF ns 9).fmod 9,1+(mixF ns 9).fmod (10^(9:Int).toNat)][q]?.getD 0:Int):=λq=>by
  have B:=fF (a:=mixF ns 9) (b:=9) (by decide);have S:=fF (a:=mixF ns 9) (b:=10^(9:Int).toNat)<|by decide
  match q with
  |0=>exact gQ λi j=>V.n1 i<|Qg.mp j
  |1=>show 0<=1+(mixF ns 9).fmod 9;exact Yh (by decide) B.1
  |2=>show 0<=1+(mixF ns 9).fmod (10^(9:Int).toNat);exact Yh (by decide) S.1
  |_+3=>exact Kc 0
 have W:=W (((mixF ns 7).fdiv 2).fmod 3).toNat;generalize ([((Qc h).map (r1F c r)).sum,1+(mixF ns 9).fmod 9,1+(mixF ns 9).fmod (10^(9:Int).toNat)][(((mixF ns 7).fdiv 2).fmod 3).toNat]?.getD 0:Int)=o at W ⊢;refine bt ?_
 (dsimp only[aL,flags,aA,aH,aY,aE,aI,aW,aD,aG,Qa,aJ,aC,aB,aK,bA,aF,bl,bk,bS,b5,cw,cE,aN,fN,bL];refine⟨rfl,.inr rfl,?_⟩)
 rw[Qd,Qd,Qt];refine g.hc (pL e A E y W λl T F P=> ?_);dsimp only[aB,bw,bE,aF,aM,Qa,aP,aC];refine bt ?_
 (dsimp only[aL,flags,aA,aH,aY,aE,aI,aW,aD,aG,Qa,aJ,aC,aB,aK,bA,aF,bl,bk,bS,b5,cw,cE,aN,fN,bL];refine⟨rfl,.inr rfl,?_⟩)
 rw[Qd,Qd,Qt];refine g.hc (pL e A f U W λm L nm u=> ?_);dsimp only[aB,bw,bE,aF,aM,Qa,aP,aC];have M:=xd V T L F nm<|P.trans u.symm;refine bt ?_;dsimp only[bM,fsts,dtup,aA,aH,aT,aY,aE,aI,aV,aW,aQ,aN,aD,aG,Qa,aC,aB,aK,bG,tgl,bu,bH,bv,bD,gm,cm,bw,bL,cS];refine cj (.inl rfl) ?_
 (dsimp only[fsts,aA,aH,aY,aE,aI,aW,bk,bS,bl,gy,gx,b5,aD,aG,Qa,aC,aB,aK,cw,cE];refine⟨.inr rfl,?_⟩)
 rw[Qd,T];refine⟨rg y,cH (λk=> .int (r[k]?.getD 0-r1F c r k+l[k]?.getD 0)) (λi j K k=> ?_) ?_⟩
 ·dsimp only[bI,cV,cr,aP,Qa,aM,aC,aB,bT];dsimp only[elD];dsimp only[bq,aQ,aD,aJ,Qa,aG,aC,aB,aK,bw,aN,bG,tgl,bu,bH,bv,bD,gn,cm];refine aZ (eE (r:=r)<|by rw[V.hr];exact j) ?_;dsimp only[bA];refine aZ (f6 j) ?_;dsimp only[cT];refine aZ (eE (r:=l)<|by rw[T];exact j) ?_;dsimp only[cI];exact k
 (dsimp only[bl,b9,eL,bN,je,jI,Qa,jv,jJ,BE,dt,aC,bH,bD,jQ,gD,bu,bv,aB,eG,jl,jD,aS,aM];refine⟨by decide,?_⟩)
 refine bK ?_;dsimp only[bM,fsts,dtup,aA,aH,aT,aY,aE,aI,aV,aW,aQ,aN,aD,aG,Qa,aC,aB,aK,bG,tgl,bu,bH,bv,bD,gn,cm,bw,cS];refine cj (.inl rfl) ?_
 (dsimp only[fsts,aA,aH,aY,aE,aI,aW,bk,bS,bl,gy,gx,b5,aD,aG,Qa,aB,aC,aK,cw,cE];refine⟨.inr rfl,?_⟩)
 rw[Qd,L];refine⟨rg U,cH (λk=> .int (s[k]?.getD 0-r2F c s k+m[k]?.getD 0)) (λi j K k=> ?_) ?_⟩
 ·dsimp only[bI,cV,cr,aP,Qa,aM,aC,aB,bT];dsimp only[elD];dsimp only[bq,aQ,aD,aJ,Qa,aG,aC,aB,aK,bw,aN,bG,tgl,bu,bH,bv,bD,gm,cm];refine aZ (eE (r:=s)<|by rw[V.hs];exact j) ?_;dsimp only[bA];refine aZ (f6 j) ?_;dsimp only[cT];refine aZ (eE (r:=m)<|by rw[L];exact j) ?_;dsimp only[cI];exact k
 (dsimp only[bl,bL,b9,eL,bN,aS];refine⟨by decide,?_⟩)
 have:=k _ _ _ _ _ M;rw[newS,newS,dI,dI,QB,QB] at this;exact g.qr this
end
theorem rj(F:Pl->Int)(h w:Nat):((allF h w).map F).sum=((Qc h).map λa=>((Qc w).map λb=>F (a,b)).sum).sum:=by
 induction h with
 |zero=>rfl
 |succ h i=>
  rw[nQ,QF,WE,i,List.range_succ,QF,WE,QB];show _+_=_+(((Qc w).map λb=>F (h,b)).sum+0)
  rw[Kf];rfl
theorem hP(f g:Pl->Bool)(x:Pl->Int):∀l:List Pl,sumOn f (l.filter g) x=(l.map λp=>if g p then(if f p then x p else 0) else 0).sum
 |[]=>rfl
 |p::l=>by
  rw[Qo,QK,<-hP f g x l];by_cases h:g p=Jc
  ·rw[Kt h,dU,Uh h]
  ·rw[Ku h,Ug h,We]
theorem pH{v:Nat->Int}{l:List Nat}(nd:l.Nodup)(o:q∈l):(l.map λi=>if i=q then v i else 0).sum=v q:=by
 rw[show(l.map λi=>if i=q then v i else 0)=l.map λi=>if q=i then v q else 0 from Qs λi o0=> ?_,nL nd,Uh o];by_cases e:i=q
 ·subst e;rw[Uh rfl]
 ·rw[Ug e,Ug λz=>e z.symm]
def hx(c:List (List (Option Int)))(x:Pl->Int)(a b:Nat):Int:=if !(cO c a b).isSome then x (a,b) else 0
theorem s7(c:List (List (Option Int)))(x:Pl->Int)(a b:Nat):(cO c a b).getD (x (a,b))=(cO c a b).getD 0+hx c x a b:=by
 unfold hx;cases cO c a b with
 |none=>exact(We _).symm
 |some v=>exact(Kf _).symm
section
variable{c:List (List (Option Int))}{r s:List Int}{h w:Nat}{x:Pl->Int}
theorem wa(T:a<h):rowS (psF c h w) x a=((Qc w).map λb=>hx c x a b).sum:=by
 rw[rowS,psF,hP,rj];rw[show((Qc h).map λY=>((Qc w).map λb=>if !(cO c Y b).isSome then(if decide (Y=a) then x (Y,b) else 0) else 0).sum)=(Qc h).map λY=>if Y=a then((Qc w).map λb=>hx c x Y b).sum else 0 from Qs λY o0=> ?_]
 ·exact pH (v:=λY=>((Qc w).map λb=>hx c x Y b).sum) KC<|Qg.mpr T
 ·by_cases e:Y=a
  ·rw[Uh e];refine Uk WU (Qs λb o0=> ?_);rw[Uh (Ud e)];rfl
  ·rw[Ug e];refine(Uk WU<|Qs λb o0=> ?_).trans (ik<|Qc w);rw[show decide (Y=a)=Jd from Ue e];split<;>rfl
theorem w7(R:b<w):colS (psF c h w) x b=((Qc h).map λa=>hx c x a b).sum:=by
 rw[colS,psF,hP,rj,pC (λa G=>if !(cO c a G).isSome then(if decide (G=b) then x (a,G) else 0) else 0)];rw[show((Qc w).map λG=>((Qc h).map λa=>if !(cO c a G).isSome then(if decide (G=b) then x (a,G) else 0) else 0).sum)=(Qc w).map λG=>if G=b then((Qc h).map λa=>hx c x a G).sum else 0 from Qs λG o0=> ?_]
 ·exact pH (v:=λG=>((Qc h).map λa=>hx c x a G).sum) KC<|Qg.mpr R
 ·by_cases e:G=b
  ·rw[Uh e];refine Uk WU (Qs λa o0=> ?_);rw[Uh (Ud e)];rfl
  ·rw[Ug e];refine(Uk WU<|Qs λa o0=> ?_).trans (ik<|Qc h);rw[show decide (G=b)=Jd from Ue e];split<;>rfl
theorem AL(R:Rect c h w)(T:a<h):((rowAt c a).filterMap id).sum=((Qc w).map λb=>(cO c a b).getD 0).sum:=by
 have l:=(R.at_ T).2;rw[ib];refine Uk WU (WM (by rw[Qd,Qd,l,Qt]) λi N p=> ?_);rw[Qd] at N;rw[Wj,Wj,Wa,cO,Qf N];rfl
theorem AK(R:Rect c h w):(c.filterMap λo=>o[b]?.getD Jb).sum=((Qc h).map λa=>(cO c a b).getD 0).sum:=by
 rw[ib]
 conv=>lhs;rw[p8 R]
 rw[QB];rfl
theorem iB(R:Rect c h w):Rect (tabV c x h w) h w:=Rect.range _ R.h1 R.h8 R.w1 R.w8
theorem jY(T:a<h)(R:b<w):cell (tabV c x h w) a b=(cO c a b).getD (x (a,b)):=by
 rw[cell,tabV,kj _ T,dF _ R]
theorem qK(V:VOK c r s h w)(q:∀p∈psF c h w,0<=x p):NN (tabV c x h w):=by
 refine(qc<|iB V.R).mpr λa b T R=> ?_;rw[jY T R]
 induction e:cO c a b with
 |none=>
  refine q (a,b)<|Qi.mpr ⟨allF_mem.mpr ⟨T,R⟩,?_⟩;show(!(cO c a b).isSome)=Jc;rw[e];rfl
 |some v=>
  have l:=(V.R.at_ T).2;refine V.nc _ (QE (V.R.at_ T).1) v ?_;rw[cO,Qf (by rw[l];exact R)] at e;have e:(rowAt c a)[b]=Ja v:=e;rw[<-e];exact KQ _
theorem n5(V:VOK c r s h w)(G:Good (psF c h w) h w (r1F c r) (r2F c s) (.tab x)):hasF (tabV c x h w) c r s w=Jc:=by
 refine uw (iB V.R) V.R (λa b T R=> ?_) ?_ ?_
 ·rw[jY T R];unfold okO;cases cO c a b with
  |none=>rfl
  |some v=>show(!(Jc&& !decide (v=v)))=Jc;rw[Ud rfl];rfl
 ·rw[rsF,tabV,QB]
  conv=>rhs;rw[<-hJ r,V.hr]
  refine Qs λa T=> ?_;have T:=Qg.mp T;show((Qc w).map λb=>(cO c a b).getD (x (a,b))).sum=_;rw[Qs λb o0=>s7 c x a b,<-jB,<-wa T,G.2.1 a T,<-AL V.R T,r1F];exact zr5 _ _
 ·rw[csF,tabV]
  conv=>rhs;rw[<-hJ s,V.hs]
  refine Qs λb R=> ?_;have R:=Qg.mp R;rw[QB];rw[show((Qc h).map ((λr:List Int=>r[b]?.getD 0)∘λa=>(Qc w).map λb=>(cO c a b).getD (x (a,b))))=(Qc h).map λa=>(cO c a b).getD 0+hx c x a b from Qs λa o0=>(dF _ R 0).trans (s7 c x a b)];rw[<-jB,<-w7 R,G.2.2 b R,<-AK V.R,r2F];exact zr5 _ _
end
theorem AD{K:DRho->Prop}(f:String)(as:List E)(i:E)(m:Me)(args:List E):dexpr G l (.meth (.sub (.call f as) i) m args) L K X=dtmp G l m args L K (.sub (.call f as) i):=rfl
noncomputable def stG(hi:Bool)(p:Pl):Nd:=bif hi then .c p.2 else .r p.1
noncomputable def glG(hi:Bool)(p:Pl):Nd:=bif hi then .r p.1 else .c p.2
abbrev cmG(ps:List Pl)(hi:Bool)(p:Pl)(x:Pl->Int):Bs:=bfsF (bn (Ja p) ps) x [stG hi p]
noncomputable def upR(hi:Bool)(p:Pl)(W:Way):List Pl:=bif hi then W.R++[p] else W.R
noncomputable def dnL(hi:Bool)(p:Pl)(W:Way):List Pl:=bif hi then W.L else W.L++[p]
def amG(hi:Bool)(p:Pl)(x:Pl->Int)(W:Way):Int:=lmin<|(dnL hi p W).map x
def nxG(hi:Bool)(p:Pl)(x:Pl->Int)(W:Way):Pl->Int:=incs (-amG hi p x W) (dnL hi p W)<|incs (amG hi p x W) (upR hi p W) x
noncomputable def cycF(ps:List Pl)(hi:Bool)(p:Pl):Nat->(Pl->Int)->(Pl->Int)
 |0,x=>x
 |k+1,x=>if glG hi p∈(cmG ps hi p x).1/\(hi=Jd->x p≠0) then cycF ps hi p k (nxG hi p x<|wayF (cmG ps hi p x) 17 (glG hi p)) else x
noncomputable def msG(R:Nat->Int)(hi:Bool)(p:Pl)(x:Pl->Int):Nat:=bif hi then(R p.1-x p).toNat else(x p).toNat
theorem ky{x:Pl->Int}(h:¬ (glG hi p∈(cmG ps hi p x).1/\(hi=Jd->x p≠0))):cycF ps hi p k x=x:=by
 induction k using Nat.casesOn with
 |zero=>rfl
 |succ k=>exact Ug h
theorem nA{x:Pl->Int}(h:glG hi p∈(cmG ps hi p x).1/\(hi=Jd->x p≠0)):cycF ps hi p (k+1) x=cycF ps hi p k (nxG hi p x (wayF (cmG ps hi p x) 17 (glG hi p))):=Uh h
theorem k6(s:Bs):∀ (k:Nat) (y:Nd),(wayF s k y).R.length<=k/\(wayF s k y).L.length<=k
 |0=>λy=>⟨QA _,QA _⟩
 |k+1=>λy=>by
  induction h:s.2 y with
  |none=>rw[lr h];exact⟨QY _,QY _⟩
  |some e=>
   obtain⟨N,Y⟩:=k6 s k e.1;rw[kY (z:=e.1) (p:=e.2) h]
   induction y.isR with
   |true=>exact⟨Yk N,KP Y⟩
   |false=>exact⟨KP N,Yk Y⟩
theorem qI(l:List Pl)(p:Pl)(i:Nat):cR (l++[p]) i=cR l i+ind (p.1=i):=by
 have:=nF p l i;unfold cR at this ⊢;rw[Yb,Nat.add_comm,<-Yb];exact this
theorem rH(l:List Pl)(p:Pl)(i:Nat):cC (l++[p]) i=cC l i+ind (p.2=i):=by
 have:=mY p l i;unfold cC at this ⊢;rw[Yb,Nat.add_comm,<-Yb];exact this
theorem o7(δ:Int)(R:List Pl)(p:Pl)(x:Pl->Int):incs δ (R++[p]) x p=incs δ R x p+δ:=by
 unfold incs;rw[List.foldl_append];exact b6 _ _ _
theorem x8(a i:Nat):ind (Nd.r a= .r i)=ind (a=i):=by
 by_cases h:a=i
 ·rw[fG h,fG (h▸rfl)]
 ·rw[dy h,dy λq=>h (Nd.r.inj q)]
theorem yi(a i:Nat):ind (Nd.c a= .c i)=ind (a=i):=by
 by_cases h:a=i
 ·rw[fG h,fG (h▸rfl)]
 ·rw[dy h,dy λq=>h (Nd.c.inj q)]
theorem ql(a i:Nat):ind (Nd.r a= .c i)=0:=dy λq=>nomatch q
theorem uC(a i:Nat):ind (Nd.c a= .r i)=0:=dy λq=>nomatch q
section
variable{ps:List Pl}{h w:Nat}{R C:Nat->Int}{x:Pl->Int}{hi:Bool}{p:Pl}
theorem nY(S:Sz ps h w)(D:p∈ps):Bfs (bn (Ja p) ps) x [stG hi p] h w (cmG ps hi p x)/\∀z∈(cmG ps hi p x).1,∀e∈nbrs (bn (Ja p) ps) z,okE x z e.2=Jc->e.1∈(cmG ps hi p x).1:=by
 obtain⟨N,Y⟩:=S.mem p D;refine qo (λq o=>S.mem q (bn_mem.mp o).1) (Kg S.h8 S.w8) 17 0 _ (.start (Qz.mpr ⟨λq=>(bQ q),.nil⟩) λy W=> ?_) (λi z hi=>absurd hi<|Wn _) (QY _) (by decide);rw[Qk.mp W]
 induction hi with
 |true=>exact Qe _<|Ql.mpr ⟨_,Qg.mpr Y,rfl⟩
 |false=>exact Qj _<|Ql.mpr ⟨_,Qg.mpr N,rfl⟩
theorem wT(S:Sz ps h w)(F:Good ps h w R C (.tab x)){U L:List Pl}(Y:∀q∈U,q∈ps)(K:∀q∈L,q∈ps)(nd:L.Nodup)(P:0<=a)(l:∀q∈L,a<=x q)(r:∀i,cR U i=cR L i)(c:∀i,cC U i=cC L i):
  Good ps h w R C (.tab<|incs (-a) L (incs a U x)):=by
 have s:∀f:Pl->Bool,((U.countP f:Nat):Int)=(L.countP f:Nat)->sumOn f ps (incs (-a) L<|incs a U x)=sumOn f ps x:=λf e=>by
  rw[fK S.nd K,fK S.nd Y,Int.neg_mul,e];exact Int.add_neg_cancel_right _ _
 refine⟨λq o=> ?_,λi hi=>(s _<|r i).trans (F.2.1 i hi),λi hi=>(s _<|c i).trans (F.2.2 i hi)⟩;have N:=nv P (R:=U) (x:=x) q;by_cases m:q∈L
 ·rw[oH nd m];exact Ws<|QN (l q m) N
 ·rw[eS m];exact QN (F.1 q o) N
structure TurnG(ps:List Pl)(h w:Nat)(R C:Nat->Int)(hi:Bool)(p:Pl)(x:Pl->Int):Prop where
 gB:∃j:Nat,(cmG ps hi p x).1[j]? =Ja (glG hi p)
 inR:∀q∈upR hi p (wayF (cmG ps hi p x) 17<|glG hi p),q∈ps
 inL:∀q∈dnL hi p (wayF (cmG ps hi p x) 17<|glG hi p),q∈ps
 ne:dnL hi p (wayF (cmG ps hi p x) 17<|glG hi p)≠ []
 fe:Good ps h w R C (.tab<|nxG hi p x (wayF (cmG ps hi p x) 17<|glG hi p))
 ms:msG R hi p (nxG hi p x<|wayF (cmG ps hi p x) 17 (glG hi p))<msG R hi p x
theorem zk(F:Good ps h w R C (.tab x))(D:p∈ps)(N:p.1<h):x p<=R p.1:=by
 rw[<-F.2.1 p.1 N];unfold rowS sumOn;have n:∀q∈ps.filter λq=>decide<|q.1=p.1,0<=x q:=λq o=>F.1 q (Qi.mp o).1;have m:p∈ps.filter λq=>decide (q.1=p.1):=Qi.mpr ⟨D,Ud rfl⟩;generalize ps.filter (λq=>decide<|q.1=p.1)=l at n m
 induction l with
 |nil=>cases m
 |cons a l i=>
  rw[Qo,QK];have Y:=n a<|.head _;have z:=gQ (f:=x) λq o=>n q<|.tail _ o;cases m with
  |head=>exact KV z
  |tail _ m=>exact QN (i (λq o=>n q<|.tail _ o) m)<|Int.le_add_of_nonneg_left Y
theorem jE(S:Sz ps h w)(F:Good ps h w R C (.tab x))(D:p∈ps)(k:glG hi p∈(cmG ps hi p x).1)(hx:hi=Jd->x p≠0):TurnG ps h w R C hi p x:=by
 obtain⟨b,o0⟩:=nY (x:=x) (hi:=hi) S D;obtain⟨j,H⟩:=Wr k;have T:=b.len;have M:=(QI.mp H).1;have W:=qw b 17 j _ H (by exact zll M<|zle T (zb2 (Kg S.h8 S.w8) rfl));generalize y:wayF (cmG ps hi p x) 17 (glG hi p)=V at W;have O:=Qk.mp W.e;have g:p∉V.R:=λq=>(bn_mem.mp<|W.r p q).2 rfl;have L:p∉V.L:=λq=>(bn_mem.mp (W.l p q).1).2 rfl;have K:∀q∈V.R,q∈ps:=λq o=>(bn_mem.mp<|W.r q o).1;have s:∀q∈V.L,q∈ps:=λq o=>(bn_mem.mp (W.l q o).1).1;have sn:∀l:List Pl,(∀q∈l,q∈ps)->∀q∈l++[p],q∈ps:=λl T q o=>(Qr.mp o).elim (T q) λz=>by rw[Qk.mp z];exact D
 have r:=W.row;have c:=W.col;rw[O] at r c;have f:dnL hi p V≠ []->(dnL hi p V).Nodup->(∀q∈dnL hi p V,q∈ps/\0<x q)->(∀q∈upR hi p V,q∈ps)->(∀i,cR (upR hi p V) i=cR (dnL hi p V) i)->(∀i,cC (upR hi p V) i=cC (dnL hi p V) i)->(1<=amG hi p x V->Good ps h w R C (.tab<|nxG hi p x V)->msG R hi p (nxG hi p x V)<msG R hi p x)->TurnG ps h w R C hi p x:=λQ I n X Z U t=>by
  have A:=iH (is:=(dnL hi p V).map x) λq=>Q<|Wv.mp q;have B:1<=amG hi p x V:=by
   obtain⟨q,o,e⟩:=Ql.mp A.1;unfold amG;rw[<-e];exact(n q o).2
  have G:Good ps h w R C (.tab<|nxG hi p x V):=wT S F X (λq o=>(n q o).1) I (QN (by decide) B) (λq o=>A.2 _<|Ql.mpr ⟨q,o,rfl⟩) Z U;refine⟨⟨j,H⟩,?_,?_,?_,?_,?_⟩<;>rw[y]
  ·exact X
  ·exact λq o=>(n q o).1
  ·exact Q
  ·exact G
  ·exact t B G
 clear y
 induction hi with
 |true=>
  refine f (λq=> ?_) W.nd (λq o=>⟨s q o,(W.l q o).2⟩) (sn _ K) (λi=> ?_) (λi=> ?_) λB G=> ?_
  ·have N:=c p.2;rw[show V.L=[] from q] at N;rw[show ind (glG Jc p=Nd.c p.2)=0 from ql _ _,show ind (stG Jc p=Nd.c p.2)=1 from fG rfl] at N;have Y:(0:Int)<=cC V.R p.2:=QU _;have J:cC V.R p.2-0=0-1:=N;rw[Yc] at J;rw[J] at Y;exact absurd Y<|by decide
  ·have N:=r i;rw[show ind (stG Jc p=Nd.r i)=0 from uC _ _,show ind (glG Jc p=Nd.r i)=ind (p.1=i) from x8 _ _] at N;show cR (V.R++[p]) i=cR V.L i;rw[qI];exact zg1 N
  ·have N:=c i;rw[show ind (glG Jc p=Nd.c i)=0 from ql _ _,show ind (stG Jc p=Nd.c i)=ind (p.2=i) from yi _ _] at N;show cC (V.R++[p]) i=cC V.L i;rw[rH];exact zg1 N
  ·have P:nxG Jc p x V p=x p+amG Jc p x V:=by
    show incs (-amG Jc p x V) V.L (incs (amG Jc p x V) (V.R++[p]) x) p=_;rw[eS L,o7,eS g]
   have Y:=zk G D (S.mem p D).1;show(R p.1-nxG Jc p x V p).toNat<(R p.1-x p).toNat;exact zg3 P B Y
 |false=>
  have hx:=hx rfl;have m:=F.1 p D;refine f (λq=>by cases List.append_eq_nil_iff.mp q with|intro _ q=>exact nomatch q) (Qv.mpr ⟨W.nd,Qz.mpr ⟨λq=>(nomatch q),.nil⟩,λa E b v q=>L<|by rw[Qk.mp v] at q;exact q▸E⟩) (λq o=> ?_) K (λi=> ?_) (λi=> ?_) λB G=> ?_
  ·rcases Qr.mp o with z|z
   ·exact⟨s q z,(W.l q z).2⟩
   ·rw[Qk.mp z];exact⟨D,Int.lt_iff_le_and_ne.mpr ⟨m,Ne.symm hx⟩⟩
  ·have N:=r i;rw[show ind (glG Jd p=Nd.r i)=0 from uC _ _,show ind (stG Jd p=Nd.r i)=ind (p.1=i) from x8 _ _] at N;show cR V.R i=cR (V.L++[p]) i;rw[qI];exact zg2 N
  ·have N:=c i;rw[show ind (stG Jd p=Nd.c i)=0 from ql _ _,show ind (glG Jd p=Nd.c i)=ind (p.2=i) from yi _ _] at N;show cC V.R i=cC (V.L++[p]) i;rw[rH];exact zg2 N
  ·have P:nxG Jd p x V p=x p+ -amG Jd p x V:=by
    show incs (-amG Jd p x V) (V.L++[p]) (incs (amG Jd p x V) V.R x) p=_;rw[o7,eS L,eS g]
   have Y:=G.1 p D;show(nxG Jd p x V p).toNat<(x p).toNat;exact ztn (Int.lt_iff_le_and_ne.mpr ⟨m,Ne.symm hx⟩) B P
theorem pY(S:Sz ps h w)(D:p∈ps):∀ (k:Nat) (x:Pl->Int),Good ps h w R C (.tab x)->msG R hi p x<k->Good ps h w R C (.tab (cycF ps hi p k x))/\¬ (glG hi p∈(cmG ps hi p (cycF ps hi p k x)).1/\(hi=Jd->cycF ps hi p k x p≠0))
 |0=>λx o0 M=>absurd M<|Wn _
 |k+1=>λx F M=>by
  by_cases q:glG hi p∈(cmG ps hi p x).1/\(hi=Jd->x p≠0)
  ·have T:=jE S F D q.1 q.2;rw[nA q];exact pY S D k _ T.fe<|zll T.ms (zs M)
  ·rw[ky q];exact⟨F,q⟩
theorem uk(S:Sz ps h w)(F:Good ps h w R C (.tab x))(D:p∈ps){a b:Nat->Bool}(Z:∀q∈ps,q≠p->a q.1=b q.2\/x q=0)(N:a p.1=Jc)(Y:b p.2=Jd):
  x p=(((Qc h).filter a).map R).sum-(((Qc w).filter b).map C).sum:=by
 have T:(((Qc h).filter a).map R).sum=sumOn (λq=>decide<|q.1∈(Qc h).filter a) ps x:=by
  rw[<-eU (f:=(·.1)) (KC.filter _)];exact Uk WU<|Qs λi hi=>(F.2.1 i<|Qg.mp (Qi.mp hi).1).symm
 have j:(((Qc w).filter b).map C).sum=sumOn (λq=>decide<|q.2∈(Qc w).filter b) ps x:=by
  rw[<-eU (f:=(·.2)) (KC.filter _)];exact Uk WU<|Qs λi hi=>(F.2.2 i<|Qg.mp (Qi.mp hi).1).symm
 have c:∀q∈ps,decide (q.1∈(Qc h).filter a)=a q.1:=λq o=>by
  rw[Kz,Uj,Qi,Qg];exact⟨λz=>z.2,λz=>⟨(S.mem q o).1,z⟩⟩
 have m:∀q∈ps,decide (q.2∈(Qc w).filter b)=b q.2:=λq o=>by
  rw[Kz,Uj,Qi,Qg];exact⟨λz=>z.2,λz=>⟨(S.mem q o).2,z⟩⟩
 have k:sumOn (λq=>decide<|q.1∈(Qc h).filter a) ps (upd x p<|x p+ -x p)=sumOn (λq=>decide<|q.2∈(Qc w).filter b) ps (upd x p<|x p+ -x p):=by
  refine kP λq o=> ?_;by_cases e:q=p
  ·subst e;exact .inr<|(b6 _ _ _).trans (Int.add_right_neg _)
  ·rw[c q o,m q o,cB _ _ e];exact Z q o e
 rw[jG S.nd D,jG S.nd D,c p D,m p D,N,Y,Uh rfl,Ug QC] at k;rw[T,j];exact zg4 k
theorem ug(S:Sz ps h w)(F:Good ps h w R C (.tab x))(D:p∈ps):stG hi p∈(cmG ps hi p x).1/\∀q∈ps,q≠p->(Nd.r q.1∈(cmG ps hi p x).1->Nd.c q.2∈(cmG ps hi p x).1)/\(decide (Nd.r q.1∈(cmG ps hi p x).1)=decide (Nd.c q.2∈(cmG ps hi p x).1)\/x q=0):=by
 obtain⟨b,l⟩:=nY (x:=x) (hi:=hi) S D;refine⟨b.has _<|.head _,λq o n=> ?_⟩;have Q:q∈bn (Ja p) ps:=bn_mem.mpr ⟨o,λz=>n (sj z).symm⟩;have c:Nd.r q.1∈(cmG ps hi p x).1->Nd.c q.2∈(cmG ps hi p x).1:=λr=>l _ r (.c q.2,q) (Ql.mpr ⟨q,Qi.mpr ⟨Q,Ud rfl⟩,rfl⟩) rfl;refine⟨c,?_⟩
 rcases Int.lt_or_eq_of_le (F.1 q o) with z|z
 ·exact .inl<|decide_eq_decide.mpr ⟨c,λr=>l _ r (.r q.1,q) (Ql.mpr ⟨q,Qi.mpr ⟨Q,Ud rfl⟩,rfl⟩)<|decide_eq_true z⟩
 ·exact .inr z.symm
end
abbrev dIn(ps:List Pl)(x:Pl->Int)(xs:List Nd):D:= .inst [dCt ps x,md Nd.key (nearG ps) xs]
theorem p7(a b:D):dfld G1 "counts" (.inst [a,b])=Ja a:=rfl
theorem ry(a b:D):dfld G1 "near" (.inst [a,b])=Ja b:=rfl
theorem lh(p:Pl):dsub (dP p) (.int 0)=Ja (.int p.1):=rfl
theorem lM(p:Pl):dsub (dP p) (.int 1)=Ja (.int p.2):=rfl
theorem tE{p:Pl}(h:p.1<8)(Y:p.2<8):dB (pkey p)=Jc:=by
 show(decide _&&decide _)=Jc;rw[Ud ⟨QU _,QZ.mpr h⟩,Ud ⟨QU _,QZ.mpr Y⟩];rfl
def endF(ps:List Pl)(R:Nat->Int)(hi:Bool)(p:Pl)(x:Pl->Int):Pl->Int:=cycF ps hi p (msG R hi p x+1) x
inductive EnK:Option Int->D->Prop
 |none:EnK Option.none .none
 |some (v:Int):EnK (Ja v) (.int v)
theorem BJ{d:D}(E:EnK e d){A B:Prop}(N:∀v,e=Ja v->d= .int v->A->B)(h:A):i4 d=Jd/\cond (!d.isNone) B A:=by
 induction E with
 |none=>exact⟨rfl,h⟩
 |some v=>exact⟨rfl,N v rfl rfl h⟩
theorem f7{K:DRho->Prop}(h:K L):dwss G l c [] L (donFl K Q) X:=h
def leG(hi:Bool)(a b:Int):Prop:=bif hi then a<=b else b<=a
def EnR(hi:Bool)(p:Pl)(e:Option Int)(O y:Pl->Int):Prop:=y=O\/∃v,e=Ja v/\leG hi v (y p)/\leG hi (y p) (O p)
theorem EnR.no{O y:Pl->Int}(h:EnR hi p Jb O y):y=O:=h.elim id λ⟨_,q,_⟩=>ns q
theorem h9{R C:Nat->Int}(S:Sz ps h w)(D:p∈ps):∀ (k:Nat) (x:Pl->Int),Good ps h w R C (.tab x)->leG hi (x p) (cycF ps hi p k x p)
 |0=>λx o0=>by
  rcases hi with⟨⟩
  ·exact Kc _
  ·exact Kc _
 |k+1=>λx F=>by
  by_cases q:glG hi p∈(cmG ps hi p x).1/\(hi=Jd->x p≠0)
  ·have T:=jE S F D q.1 q.2;have I:=h9 (hi:=hi) S D k _ T.fe;have m:=T.ms;rw[nA q]
   rcases hi with⟨⟩
   ·exact QN I<|KF.mp λz=>Kd.mpr (Int.toNat_le_toNat<|Yd z) m
   ·exact QN (KF.mp λz=>Kd.mpr (Int.toNat_le_toNat<|Int.sub_le_sub_left (Yd z) (R p.1)) m) I
  ·rw[ky q]
   rcases hi with⟨⟩
   ·exact Kc _
   ·exact Kc _
inductive GlI(ps:List Pl)(h w:Nat)(R Cc:Nat->Int)(hi:Bool)(p:Pl)(O:Pl->Int)(sf gd dE:D)(b1 b2 b3:Bool)(k:Nat)(Δ:DRho):Prop
 |mk (x:Pl->Int) (f:Nat) (u1 u2 u3 u4 u5:Option (D×Bool)) (F:Good ps h w R Cc (.tab x)) (hk:msG R hi p x=k) (hf:k<f) (hO:cycF ps hi p f x=O)
  (e:Δ=(Nb "self" b1 sf<|Nb "place" b2 (dP p)<|Nb "enough" b3 dE<|Nb "counts" Jc (dCt ps x)<|Nb "goal" Jc gd<|No "came" u1<|No "raised" u2<|No "lowered" u3<|No "start" u4<|No "amount" u5<|[])):GlI ps h w R Cc hi p O sf gd dE b1 b2 b3 k Δ
section
variable{C:Cx}{mg mb:Jq->Option Jf}{n:Nat}{Q:D->Bool->Prop}{X:DX}
theorem iY(e:Env1 C G1 mg mb){ps:List Pl}{R c:Nat->Int}{L:Pl->Int}(S:Sz ps h w)(N:NearX ps xs)(l:ps.length<=64)(s:Good ps h w R c (.tab L))(t:p∈ps)
  {d:Option Int}{dE:D}(I:EnK d dE)(m:∀y,EnR Jc p d (endF ps R Jc p L) y->Q (.tup [dCt ps y,dCm (cmG ps Jc p y)]) Jc):aR (aO C<|n+2) "Bounds.greatest" [(dIn ps L xs,G),(dP p,V),(dE,W)] Q X:=by
 refine e.fn c7 (bo 50 rfl) rfl λcl r J PX g=> ?_;dsimp only[c7];dsimp only[aX,b8,bp];have P:h+w<=16:=Kg S.h8 S.w8;refine bt ?_
 (dsimp only[bk,rq,bE,aF,aM,Qa,aP,aC,aB,aA,aE,b5,eT,aG,aJ,aK];refine⟨.inr rfl,?_⟩)
 refine aZ (p7 _ _) ?_;dsimp only[xx];refine⟨⟨λq=>(by rw[Wv.mp q] at t;cases t),λk M=> ?_,cJ (λp=>D.int<|L p) (λa=>rfl) _⟩,?_⟩
 ·obtain⟨q,o,rfl⟩:=Ql.mp M;obtain⟨E,Y⟩:=S.mem q o;exact tE (QX E S.h8)<|QX Y S.w8
 refine bt ?_;dsimp only[bM,fsts,dtup,aA,aH,aT,aY,aE,aI,aV,aW,aQ,aN,aD,aG,Qa,aJ,aC,aB,aK,cg];refine gY ?_;dsimp only[bl];refine aZ (lh p) ?_
 (dsimp only[bA,bl,bE,aF,aM,Qa,aP,aC,aB];refine⟨by decide,?_⟩)
 generalize U:endF ps R Jc p L=O at m;refine jr rfl (msG R Jc p L+1) ?_;refine gK (GlI ps h w R c Jc p O (dIn ps L xs) (dN<|.r p.1) dE G V W) ?_ _ (msG R Jc p L) _ (QW _) ⟨L,_,_,_,_,_,_,s,rfl,QW _,U,rfl⟩;rintro k Δ ⟨x,f,u1,u2,u3,u4,u5,F,M,z,U,rfl⟩ K i;clear s;dsimp only[bV,br,aB];obtain⟨f,rfl⟩:∃B,f=B+1:=⟨f-1,by exact zpr z⟩
 obtain⟨b,o0⟩:=nY (x:=x) (hi:=Jc) S t;have T:=jE (hi:=Jc) S F t;refine bt ?_
 (dsimp only[aL,flags,aA,aH,aY,aE,aI,aW,aD,aG,Qa,aJ,aC,aB,aK,bJ,fsts,dnew,aT,aV,bM,dtup,aQ,aN,cg,dg,aS,eT];refine⟨rfl,?_⟩)
 refine aZ (ry _ _) ?_;dsimp only[dg,aS];refine gj ?_;dsimp only[bl];refine aZ (lM p) ?_
 (dsimp only[bA,bl,aF];refine⟨by decide,by decide,?_⟩)
 refine g.hc<|jU (ban:=Ja p) (st:=[.c p.2]) e N S.mem S.h8 S.w8 (Qz.mpr ⟨λq=>(bQ q),.nil⟩) (λy u=>b.val y<|b.has y u) ?_;dsimp only[aB,dg,bE,aF,aM,Qa,aP,aC];refine ca ?_;dsimp only[b7,br,aB,cf,aU,aD,aG,Qa,aJ,aC,aK,aQ,d5,dX];rw[uD,gk,nX,pw dl];refine lU (λE=> ?_) λE=> ?_
 ·rw[ky λq=>E q.1] at U;refine df ?_
  (dsimp only[e9,dJ,aT,eX,aV,cA,aM,Qa,aP,aC,aB,aG,aJ,aK,eg];refine⟨rfl,rfl,by decide,?_⟩)
  exact g.qr<|m _ (.inl U)
 refine BJ I (λv hv A Z=> ?_) ?_
 ·subst A;refine aZ (cQ ce (c3 p) t) ?_;dsimp only[oX];refine cW (λY=> ?_) λo0=>Z;refine df ?_
  (dsimp only[e9,dJ,aT,eX,aV,cA,aM,Qa,aP,aC,aB,aG,aJ,aK,eg];refine⟨rfl,rfl,by decide,?_⟩)
  exact g.qr<|m _ (.inr ⟨v,hv,Y,U▸h9 S t _ _ F⟩)
 have T:=T E λq=>Bool.noConfusion q;rw[nA (hi:=Jc) ⟨E,λq=>Bool.noConfusion q⟩] at U;obtain⟨j,H⟩:=T.gB;refine f7 ?_;refine dS ?_
 (dsimp only[aL,flags,aA,aH,aY,aE,aI,aW,aD,aG,Qa,aJ,aC,aB,aK,dg,aS];refine⟨rfl,?_⟩)
 refine g.hc<|vz (y:= .r p.1) e b P H ?_;dsimp only[aB,bG,tgl,bu,bH,bv,bD,aC,aF,bE,rY,aM,Qa,aP,bT];refine bt ?_
 (dsimp only[bk,na,aA,aE,xm,bE,aF,aM,Qa,aP,aB,aC];refine⟨.inr rfl,?_⟩)
 refine cj (.inl rfl) ?_;dsimp only[fsts,dz,aA,aH,aY,aE,aI,aW,cZ,aD,aG,Qa,aJ,aC,aB,aK,bw,bL,c4];refine bR dP (λp=> .int (x p)) (λq o K k=> ?_) ?_
 ·dsimp only[bI,cV,cr,aP,Qa,aM,aC,aB,bT];dsimp only[elD];dsimp only[aQ,aD,aJ,Qa,aG,aC,aB,aK,dg];refine aZ (cQ ce (c3 q)<|T.inL q o) ?_;dsimp only[bA];exact k
 refine gH (eH _ _) ?_;refine⟨λq=>T.ne<|Wv.mp q,?_⟩;refine lv ?_;rw[show spl _ _=Ja ([],"counts",[.bin .add (.loc "raised") (.list [.loc "place"]),.loc "lowered",.loc "amount"]) from rfl,vB]
 (dsimp only[aM,Qa,aC,aB,aA,aH,aE,aI,aD,aG,aK,bA,bw,bq,bJ,fsts,dnew,aT,aY,aV,aW,iy,tgl,bN];refine⟨rfl,rfl,rfl,by decide,?_⟩)
 refine⟨eZ<|by rw[QJ,Qd];exact zb2 (Kk (k6 _ 17 _).1 1) rfl,?_⟩;rw[kR dP,cJ dP fx]
 (dsimp only[aB];refine⟨rfl,?_⟩)
 refine g.io<|qf e S.nd l T.inR T.inL ?_;exact i _ _ (zq T.ms M) ⟨_,f,_,_,_,_,_,T.fe,rfl,zll (zq T.ms M)<|zs z,U,rfl⟩
theorem nC(e:Env1 C G1 mg mb){ps:List Pl}{R c:Nat->Int}{L:Pl->Int}(S:Sz ps h w)(N:NearX ps xs)(H:ps.length<=64)(s:Good ps h w R c (.tab L))(t:p∈ps)
  {d:Option Int}{dE:D}(J:EnK d dE)(m:∀y,EnR Jd p d (endF ps R Jd p L) y->Q (.tup [dCt ps y,dCm (cmG ps Jd p y)]) Jc):aR (aO C<|n+2) "Bounds.least" [(dIn ps L xs,G),(dP p,V),(dE,W)] Q X:=by
 refine e.fn ef (bo 51 rfl) rfl λcl cu PQ PX g=> ?_;dsimp only[ef];dsimp only[aX,b8,bp];have P:h+w<=16:=Kg S.h8 S.w8;refine bt ?_
 (dsimp only[bk,rq,bE,aF,aM,Qa,aP,aC,aB,aA,aE,b5,eT,aG,aJ,aK];refine⟨.inr rfl,?_⟩)
 refine aZ (p7 _ _) ?_;dsimp only[xx];refine⟨⟨λq=>(by rw[Wv.mp q] at t;cases t),λk M=> ?_,cJ (λp=>D.int<|L p) (λa=>rfl) _⟩,?_⟩
 ·obtain⟨q,o,rfl⟩:=Ql.mp M;obtain⟨E,Y⟩:=S.mem q o;exact tE (QX E S.h8)<|QX Y S.w8
 refine bt ?_;dsimp only[bM,fsts,dtup,aA,aH,aT,aY,aE,aI,aV,aW,aQ,aN,aD,aG,Qa,aJ,aC,aB,aK,cg];refine gj ?_;dsimp only[bl];refine aZ (lM p) ?_
 (dsimp only[bA,bl,bE,aF,aM,Qa,aP,aC,aB];refine⟨by decide,?_⟩)
 generalize U:endF ps R Jd p L=O at m;refine jr rfl (msG R Jd p L+1) ?_;refine gK (GlI ps h w R c Jd p O (dIn ps L xs) (dN<|.c p.2) dE G V W) ?_ _ (msG R Jd p L) _ (QW _) ⟨L,_,_,_,_,_,_,s,rfl,QW _,U,rfl⟩;rintro k Δ ⟨x,f,u1,u2,u3,u4,u5,F,M,z,U,rfl⟩ K B;clear s;dsimp only[bV,br,aB];obtain⟨f,rfl⟩:∃r,f=r+1:=⟨f-1,by exact zpr z⟩
 obtain⟨b,o0⟩:=nY (x:=x) (hi:=Jd) S t;have T:=jE (hi:=Jd) S F t;refine bt ?_
 (dsimp only[aL,flags,aA,aH,aY,aE,aI,aW,aD,aG,Qa,aJ,aC,aB,aK,bJ,fsts,dnew,aT,aV,bM,dtup,aQ,aN,cg,dg,aS,eT];refine⟨rfl,?_⟩)
 refine aZ (ry _ _) ?_;dsimp only[dg,aS];refine gY ?_;dsimp only[bl];refine aZ (lh p) ?_
 (dsimp only[bA,bl,aF];refine⟨by decide,by decide,?_⟩)
 refine g.hc<|jU (ban:=Ja p) (st:=[.r p.1]) e N S.mem S.h8 S.w8 (Qz.mpr ⟨λq=>(bQ q),.nil⟩) (λy u=>b.val y<|b.has y u) ?_;dsimp only[aB,dg,bE,aF,aM,Qa,aP,aC];have i:¬ (glG Jd p∈(cmG ps Jd p x).1/\(Jd=Jd->x p≠0))->Q (.tup [dCt ps x,dCm (cmG ps Jd p x)]) Jc:=λq=>by
  rw[ky q] at U;exact m _<|.inl U
 refine ca ?_;dsimp only[b7,br,aB,cf,aU,aD,aG,Qa,aJ,aC,aK,aQ,d5,cM,deq,aN,dX];rw[uD,gk,nX,pw dl];refine lU (λE=> ?_) λE=> ?_
 ·refine df ?_
  (dsimp only[e9,dJ,aT,eX,aV,cA,aM,Qa,aP,aC,aB,aG,aJ,aK,eg];refine⟨rfl,rfl,by decide,?_⟩)
  exact g.qr<|i λq=>E q.1
 refine aZ (cQ ce (c3 p) t) ?_
 (dsimp only[bX];refine⟨⟨rfl,rfl⟩,?_⟩)
 refine cW (λY=> ?_) λY=> ?_
 ·refine df ?_
  (dsimp only[e9,dJ,aT,eX,aV,cA,aM,Qa,aP,aC,aB,aG,aJ,aK,eg];refine⟨rfl,rfl,by decide,?_⟩)
  exact g.qr<|i λq=>q.2 rfl Y
 refine BJ J (λv hv A I=> ?_) ?_
 ·subst A;refine aZ (cQ ce (c3 p) t) ?_;dsimp only[pI];refine cW (λY=> ?_) λo0=>I;refine df ?_
  (dsimp only[e9,dJ,aT,eX,aV,cA,aM,Qa,aP,aC,aB,aG,aJ,aK,eg];refine⟨rfl,rfl,by decide,?_⟩)
  exact g.qr<|m _ (.inr ⟨v,hv,Y,U▸h9 S t _ _ F⟩)
 have T:=T E λo0=>Y;rw[nA ⟨E,λo0=>Y⟩] at U;obtain⟨j,Z⟩:=T.gB;refine f7 ?_;refine dS ?_
 (dsimp only[aL,flags,aA,aH,aY,aE,aI,aW,aD,aG,Qa,aJ,aC,aB,aK,dg,aS];refine⟨rfl,?_⟩)
 refine g.hc<|vz (y:= .c p.2) e b P Z ?_;dsimp only[aB,bG,tgl,bu,bH,bv,bD,aC,aF,bE,rY,aM,Qa,aP,bT];have l:=(k6 (cmG ps Jd p x) 17<|.c p.2).2;refine bt ?_
 (dsimp only[bk,na,aA,aE,xm,bE,aF,aM,Qa,aP,aB,aC];refine⟨.inr rfl,?_⟩)
 refine cj (.inl rfl) ?_
 (dsimp only[fsts,dz,aA,aH,aY,aE,aI,aW,cZ,bq,bJ,dnew,aT,aV,aD,aG,Qa,aJ,aC,aB,aK,bw,iy,tgl,c4];refine⟨by decide,?_⟩)
 refine⟨eZ<|by rw[QJ,Qd];exact zb2 (Kk l 1) rfl,?_⟩;rw[kR dP];refine bR dP (λp=> .int (x p)) (λq o K k=> ?_) ?_
 ·dsimp only[bI,cV,cr,aP,Qa,aM,aC,aB,bT];dsimp only[elD];dsimp only[aQ,aD,aJ,Qa,aG,aC,aB,aK,dg];refine aZ (cQ ce (c3 q)<|T.inL q o) ?_;dsimp only[bA];exact k
 refine gH (eH _ _) ?_;refine⟨λq=>T.ne<|Wv.mp q,?_⟩;refine lv ?_;rw[show spl _ _=Ja ([],"counts",[.loc "raised",.bin .add (.loc "lowered")<|.list [.loc "place"],.loc "amount"]) from rfl,vB]
 (dsimp only[aM,Qa,aC,aB,aA,aH,aE,aI,aD,aG,aK,bA,bq,bJ,fsts,dnew,aT,aY,aV,aW,bw,iy,tgl,bN];refine⟨rfl,rfl,rfl,by decide,?_⟩)
 refine⟨eZ<|by rw[QJ,Qd];exact zb2 (Kk l 1) rfl,?_⟩;rw[kR dP,cJ dP fx]
 (dsimp only[aB];refine⟨rfl,?_⟩)
 refine g.io<|qf e S.nd H T.inR T.inL ?_;exact B _ _ (zq T.ms M) ⟨_,f,_,_,_,_,_,T.fe,rfl,zll (zq T.ms M)<|zs z,U,rfl⟩
end
inductive PlK(h w:Nat):D->Bool->Prop
 |nt {d:D} (e:disiG G1 d ["tuple"]=Ja Jd):PlK h w d Jd
 |tl {l:List D} (e:decide ((l.length:Int)=2)=Jd):PlK h w (.tup l) Jd
 |bb:PlK h w (.tup [.bool Jd,.bool Jd]) Jd
 |ii (a b:Int):PlK h w (.tup [.int a,.int b]) (decide (a>=0)&&(decide (b>=0)&&(decide (a<h)&&decide (b<w))))
inductive PlA(c:List (List (Option Int)))(h w:Nat):D->Option Pl->Prop
 |bad {d:D} {v:Bool} (k:PlK h w d v) (e:v=Jc->∃q,d=dP q/\q∉psF c h w):PlA c h w d Option.none
 |ok {p:Pl} (hp:p∈psF c h w):PlA c h w (dP p) (Ja p)
theorem Bo{p:Pl}(N:p.1<h)(Y:p.2<w):PlK h w (dP p) Jc:=by
 have:=PlK.ii (h:=h) (w:=w) p.1 p.2;rw[Ud (show(p.1:Int)>=0 from QU _),Ud (show(p.2:Int)>=0 from QU _),Ud<|QZ.mpr N,Ud (QZ.mpr Y)] at this;exact this
theorem ml(ps:List Pl)(q:Pl):((ps.map dP).any λd=>D.eqv d (dP q))=decide (q∈ps):=by
 rw[List.any_map,Kz,KS,Uj]
 constructor
 ·rintro ⟨x,hx,h⟩;have h:D.eqv (dP x) (dP q)=Jc:=h;rw[pU,Uj] at h;exact h▸hx
 ·exact λi=>⟨q,i,ci _⟩
theorem qR(d:D):tg0 d Jb=Jb:=by unfold tg0;cases d.atom<;>rfl
theorem te{a b:D}(h:c=Jc->a.atom=v)(p:c=Jd->b.atom=v):(cond c a b).atom=v:=by
 induction c with
 |true=>exact h rfl
 |false=>exact p rfl
theorem hV{K:Bool->Prop}(e:t=Ja v)(k:K v):oB K t:=by subst e;exact k
theorem Bb{M:D->DRho->Prop}(a i:E):dwm G c (.sub a i) L M=dwe G c (.sub a i) L (λd t=>t=Jb/\M d L) λo0 o0=>False:=rfl
def lowD(ps:List Pl)(h w:Nat)(p:Pl)(x:Pl->Int):D:=cond (decide<|x p>0) (.tup [.int (x p),dNs<|numF Jc h (cmG ps Jd p x).1,dNs (numF Jd w (cmG ps Jd p x).1)])<|.tup [.int 0,.list [],.list []]
def higD(ps:List Pl)(h w:Nat)(p:Pl)(x:Pl->Int):D:= .tup [.int (x p),dNs ((Qc h).filter λk=> !decide (Nd.r k∈(cmG ps Jc p x).1)),dNs ((Qc w).filter λk=> !decide (Nd.c k∈(cmG ps Jc p x).1))]
theorem zgw1{y x w H L:Int}(h:y-x>=w)(a:y<=H)(b:L<=x):w<=H-L:=QN h<|Int.sub_le_sub a b
theorem zgw2{y x w:Int}(h:x+w<=y):y-x>=w:=Int.le_sub_left_of_add_le h
theorem zgw3{z y w L:Int}(h:z<=y-w)(b:L<=z):w<=y-L:=Int.le_sub_right_of_add_le<|Kx L w▸Int.add_le_of_le_sub_right (QN b h)
theorem zgw4{z y w:Int}(h:z<=y-w):w<=y-z:=zgw3 h<|Kc z
section
variable{C:Cx}{mg mb:Jq->Option Jf}{n:Nat}{Q:D->Bool->Prop}{X:DX}
theorem pq(e:Env1 C G1 mg mb)(k:Q (.bool Jd) Jc):aR (aO C (n+1)) "is_count" [(.bool v,b)] Q X:=by
 refine e.fn c8 (bo 5 rfl) rfl λl c P PX g=> ?_;dsimp only[c8];dsimp only[aX,b8,bp];refine bK ?_
 (dsimp only[cf,aU,aF,aN,aD,aG,Qa,aB,aK,bC,br,cp,aT,aV,Bk,il,ch,aC,Ba];refine⟨.inr rfl,.inr rfl,?_⟩)
 exact g.qr k
theorem vl(e:Env1 C G1 mg mb){d:D}(h:disiG G1 d ["int"]=Ja Jd)(k:Q (.bool Jd) Jc):aR (aO C (n+1)) "is_count" [(d,b)] Q X:=by
 refine e.fn c8 (bo 5 rfl) rfl λl c P PX g=> ?_;dsimp only[c8];dsimp only[aX,b8,bp];refine bK ?_
 (dsimp only[cf,aU,aF,aN,aD,aG,Qa,aB,aK,bC,br,cp,aT,aV];refine⟨.inr rfl,?_⟩)
 refine hV h ?_;dsimp only[aC];exact g.qr k
theorem rP(e:Env1 C G1 mg mb)(R:Rect c h w){d:D}(hd:PlK h w d v)(k:Q (.bool v) Jc):aR (aO C (n+2)) "is_place" [(d,b),(dC c,b')] Q X:=by
 refine e.fn g8 (bo 13 rfl) rfl λcl cu PQ PX gg=> ?_;dsimp only[g8];dsimp only[aX,b8,bp];refine ca ?_
 (dsimp only[b7,br,aB,bC,aL,flags,aA,aH,aE,aI,aQ,aN,aD,aG,Qa,aC,aK,aU,d4,deq,bk,bS,bX,b5,cp,aT,aV];refine⟨.inr rfl,?_⟩)
 induction hd with
 |nt h1=>
  refine hV h1 ?_;dsimp only[i9,aB];refine bK ?_;dsimp only[bV,aF];exact gg.qr k
 |tl h1=>
  (dsimp only[bG,tgl,mn,cE,mi,il,ch,aC];refine⟨.inr rfl,⟨rfl,rfl⟩,?_⟩)
  rw[h1];dsimp only[i9,aB];refine bK ?_;dsimp only[bV,aF];exact gg.qr k
 |bb=>
  (dsimp only[bG,tgl,bu,yP,bv,dt,aB,fP,cm,Bg,aF,e8,mn,aT,aV,cE,mi,il,ch,aC];refine⟨.inr rfl,⟨rfl,rfl⟩,?_⟩)
  rw[show decide (((0+1+1:Nat):Int)=2)=Jc from rfl]
  (dsimp only[ch,aC];refine⟨rfl,?_⟩)
  refine gg.hc<|pq e ?_;dsimp only[br,i9,aB];refine bK ?_;dsimp only[bV,aF];exact gg.qr k
 |ii x y=>
  (dsimp only[bG,tgl,bu,eG,bv,dt,aB,fP,cm,bA,aF,e8,mn,aT,aV,cE,mi,il,ch,aC];refine⟨.inr rfl,⟨rfl,rfl⟩,?_⟩)
  rw[show decide (((0+1+1:Nat):Int)=2)=Jc from rfl]
  (dsimp only[ch,aC];refine⟨rfl,?_⟩)
  refine gg.hc<|iJ e ?_;dsimp only[br];refine lU (λh1=> ?_) λh1=> ?_
  ·rw[Ue h1] at k;refine bK ?_;dsimp only[bV,aF];exact gg.qr k
  rw[Ud h1] at k;refine⟨rfl,?_⟩;refine gg.hc<|iJ e ?_;dsimp only[br];refine lU (λh2=> ?_) λh2=> ?_
  ·rw[Ue h2] at k;refine bK ?_;dsimp only[bV,aF];exact gg.qr k
  rw[Ud h2] at k;refine bK ?_
  (dsimp only[cf,aU,aF,bk,bS,aA,aE,b5,aQ,aN,aD,aG,Qa,aB,aC,aK,fP,cm,l5,br,cw,cE,e8];refine⟨.inr rfl,?_⟩)
  rw[Qd,R.len];refine cW (λh3=> ?_) λh3=> ?_
  ·rw[Ud h3] at k;refine⟨.inr rfl,?_⟩;refine aZ (gA (i:=0) R<|QX Nat.zero_lt_one R.h1) ?_;dsimp only[cw,cE];rw[Qd,(R.at_<|QX Nat.zero_lt_one R.h1).2];exact gg.qr k
  ·rw[Ue h3] at k;exact gg.qr k
theorem uT(e:Env1 C G1 mg mb)(K:ClsC C cls8){ps:List Pl}{x:Pl->Int}(h:ps.length<=64)(k:∀xs,NearX ps xs->Q (dIn ps x xs) Jc):aR (aO C (n+3)) "Bounds" [(dCt ps x,Jc)] Q X:=by
 refine wq e.g (todoE e.g e.x) K rfl (by decide) ?_;dsimp only[cls8]
 (dsimp only[aL,flags,aA,aH,aY,aE,aI,aW,bk,g6,b5,aD];refine⟨rfl,.inr rfl,?_⟩)
 refine⟨⟨by rw[Qd];exact eZ<|by exact zb2 h rfl,λq o=> ?_⟩,?_⟩
 ·obtain⟨y,o0,rfl⟩:=Ql.mp o;exact eZ (show 2<=1000 by decide)
 rw[qG];refine t8 (n:=n) e h λxs N=> ?_;exact⟨rfl,k xs N⟩
theorem yf(e:Env1 C G1 mg mb)(K:ClsC C cls8)(V:VOK c r s h w){d:D}(hd:PlA c h w d o)(kb:o=Jb->X "BadPlace" [])
  (kt:∀p x xs,o=Ja p->d=dP p->p∈psF c h w->outV c r s h w= .tab x->NearX (psF c h w) xs->Q (dIn (psF c h w) x xs) Jc)
  (kx:∀p pa pb,o=Ja p->outV c r s h w= .no pa pb->X "NoTable" [dNs ((Qc h).filter pa),dNs ((Qc w).filter pb)]):aR (aO C<|n+5) "bounds_at" [(.tup [dC c,dI r,dI s],b),(d,b')] Q X:=by
 refine e.fn f0 (bo 18 rfl) rfl λcl cu PQ PX gg=> ?_;dsimp only[f0];dsimp only[aX,b8,bp];refine fS ?_
 (dsimp only[aL,flags,aA,aH,aE,aI,aD,aG,Qa,aC,aB,aK,bG,tgl,bu,bH,bv,bD,aS];refine⟨rfl,?_⟩)
 refine gg.hc<|gO e V ?_;have okp:D.okds 40 ((psF c h w).map dP)=Jc:=cx dP (λp=>rfl) _;have rs:o=Jb->dwss G1 cl cu [.raise "BadPlace" [.str "no hidden place"]] (Nb "view" b (D.tup [dC c,dI r,dI s])<|Nb "place" b' d<|[]) (donFl (λΔ1=>dwss G1 cl cu [.ret (.call "Bounds" [.call "counts_of" [.loc "view"]])] Δ1 PQ PX) PQ) PX:=λq=>by
  refine kH ⟨rfl,rfl,.inl rfl⟩ ?_
  (dsimp only[fsts,aA,aY,aH,aE,aW,aI,dq,bl];refine⟨rfl,?_⟩)
  exact gg.qx<|kb q
 refine ca ?_
 induction hd with
 |@bad d v hk hv=>
  (dsimp only[b7,br,aB,aU,dX,aL,flags,aA,aH,aE,aI,aQ,aN,aD,aG,Qa,aC,aK,bG,tgl,bu,bH,bv,bD,cS,cm,bw,aS,bC];refine⟨rfl,?_⟩)
  refine gg.hc<|rP e V.R hk ?_;dsimp only[br];refine jn (λh1=> ?_) λh1=>rs rfl;obtain⟨q,rfl,hq⟩:=hv h1;refine⟨rfl,?_⟩;refine gg.hc<|hA e V.R ?_;rw[iT];refine⟨⟨jb q,okp⟩,?_⟩;rw[ml,Ue hq];exact rs rfl
 |@ok p hp=>
  obtain⟨p1,p2,o0⟩:=hH hp
  (dsimp only[b7,br,aB,aU,dX,aL,flags,aA,aH,aE,aI,aQ,aN,aD,aG,Qa,aC,aK,bG,tgl,bu,bH,bv,bD,cS,cm,bw,aS,bC];refine⟨rfl,?_⟩)
  refine gg.hc<|rP e V.R (Bo p1 p2) ?_
  (dsimp only[br,ch,aC];refine⟨rfl,?_⟩)
  refine gg.hc<|hA e V.R ?_;rw[iT];refine⟨⟨jb p,okp⟩,?_⟩;rw[ml,Ud hp];dsimp only[ch,aC];refine bK ?_
  (dsimp only[aL,flags,aA,aH,aY,aE,aI,aW,aD,aG,Qa,aC,aB,aK,bG,tgl,bu,bH,bv,bD,aS,bL,b9,bN];refine⟨rfl,rfl,?_⟩)
  refine gg.hc (jc e V (λx hx=> ?_) λpa pb hx=>gg.qx<|kx p pa pb rfl hx);dsimp only[aB,dg,aF,bl,bL];exact gg.hc<|uT e K (hZ V.R.h8 V.R.w8) λxs N=>gg.qr<|kt p x xs rfl rfl hp hx N
theorem yW(e:Env1 C G1 mg mb)(K:ClsC C cls8)(V:VOK c r s h w){d:D}(v:PlA c h w d o)(k:o=Jb->X "BadPlace" [])
  (t:∀p x,o=Ja p->outV c r s h w= .tab x->Q (.tup [dT (tabV c (endF (psF c h w) (r1F c r) Jd p x) h w),dT (tabV c (endF (psF c h w) (r1F c r) Jc p x) h w)]) Jc)
  (j:∀p a Y,o=Ja p->outV c r s h w= .no a Y->X "NoTable" [dNs ((Qc h).filter a),dNs ((Qc w).filter Y)]):aR (aO C<|n+6) "ends" [(.tup [dC c,dI r,dI s],b),(d,b')] Q X:=by
 refine e.fn mI (bo 19 rfl) rfl λM u P PX g=> ?_;dsimp only[mI];dsimp only[aX,b8,bp];have G:Good (psF c h w) h w (r1F c r) (r2F c s) (outV c r s h w):=j0 (gG V.R) _ _ _ _ (fill0 V)<|QW _;refine bt ?_
 (dsimp only[aL,flags,aA,aH,aY,aE,aI,aW,aD,aG,Qa,aJ,aC,aB,aK,bG,tgl,bu,bH,bv,bD,aS];refine⟨rfl,?_⟩)
 refine g.hc (yf e K V v (λq=>g.qx<|k q) (λp x H T I U hx N=> ?_) λp a Y T hx=>g.qx<|j p a Y T hx);subst I;rw[hx] at G;dsimp only[aB,lO,tgl,bu,eg,bv,bD,aC,bE,aF,aM,Qa,aP];have S:=gG V.R;have l:=hZ (c:=c) V.R.h8 V.R.w8;refine bt ?_
 (dsimp only[aQ,aN,d9,aH,aY,aA,aE,aI,aW,fQ,aF,bl,aD,aG,Qa,aJ,aC,aB,aK,km,lO,tgl,bu,eg,bv,bD,aS];refine⟨rfl,trivial,?_⟩)
 refine g.hc (nC e S N l G U .none λy W=> ?_);rw[W.no];dsimp only[aB,bG,tgl,bu,eg,bv,bD,aC,e8,cm,dg,bE,aF,aM,Qa,aP];refine bt ?_
 (dsimp only[aQ,aN,d9,aH,aY,aA,aE,aI,aW,fQ,aF,bl,aD,aG,Qa,aJ,aC,aB,aK,km,lO,tgl,bu,eg,bv,bD,aS];refine⟨rfl,trivial,?_⟩)
 refine g.hc (iY e S N l G U .none λy W=> ?_);rw[W.no];dsimp only[aB,bG,tgl,bu,eg,bv,bD,aC,e8,cm,dg,bE,aF,aM,Qa,aP];refine bK ?_
 (dsimp only[bM,fsts,dtup,aA,aH,aT,aY,aE,aI,aV,aW,aL,flags,aD,aG,Qa,aB,aC,aK,dg,aS,bL,bG,tgl,bu,bH,bv,bD,b9,eL,bN];refine⟨rfl,?_⟩)
 refine g.hc<|g9 e V.R ?_
 (dsimp only[aB,bw,bl];refine⟨rfl,?_⟩)
 refine g.hc<|g9 e V.R ?_
 (dsimp only[aB,bw,bl,aF];refine⟨by decide,?_⟩)
 exact g.qr<|t p x T hx
theorem ur(e:Env1 C G1 mg mb){ps:List Pl}{R j:Nat->Int}{L:Pl->Int}(S:Sz ps h w)(N:NearX ps xs)(l:ps.length<=64)(F:Good ps h w R j (.tab L))(D:p∈ps){a V z O:Bool}
  (q:Q (.tup [lowD ps h w p (endF ps R Jd p L),higD ps h w p (endF ps R Jc p L)]) Jc):aR (aO C<|n+3) "Bounds.walls" [(dIn ps L xs,a),(dP p,V),(.int h,z),(.int w,O)] Q X:=by
 refine e.fn f_Bounds_walls (bo 53 rfl) rfl λM c P PX g=> ?_;dsimp only[f_Bounds_walls];dsimp only[aX,b8,bp];have U:h+w<=16:=Kg S.h8 S.w8;refine dS ?_
 (dsimp only[d9,aH,aY,aA,aE,aI,aW,fQ,aF,bl,aD,aG,Qa,aJ,aC,aB,aK,km,lO,tgl,bu,eg,bv,bD,aS];refine⟨rfl,trivial,?_⟩)
 refine g.hc (nC e S N l F D .none λy W=> ?_);rw[W.no];dsimp only[aB,bG,tgl,bu,eg,bv,bD,aC,aF,bE,iS,aM,Qa,aP,bT];generalize endF ps R Jd p L=x at q ⊢;obtain⟨B,o0⟩:=nY (x:=x) (hi:=Jd) S D;have Z:=B.len;have f:∀d u o,d=lowD ps h w p x->dwss G1 M c (f_Bounds_walls.b.drop 3) (Nb "self" a (dIn ps L xs)<|Nb "place" V (dP p)<|Nb "many_rows" z (.int h)<|Nb "many_columns" O (.int w)<|No "counts" u<|No "came" o<|Nb "low" Jc d<|No "rows" Jb<|No "columns" Jb<|[]) P PX:=λd u o H=>by
  dsimp only[f_Bounds_walls,Yz];have A:d.atom=Jd:=by
   rw[H];unfold lowD;exact te (λo0=>rfl) λo0=>rfl
  rw[<-H] at q;clear H;refine dS ?_
  (dsimp only[d9,aH,aY,aA,aE,aI,aW,fQ,aF,bl,aD,aG,Qa,aJ,aC,aB,aK,km,lO,tgl,bu,eg,bv,bD,aS];refine⟨rfl,trivial,?_⟩)
  refine g.hc (iY e S N l F D .none λy W=> ?_);rw[W.no];dsimp only[aB,bG,tgl,bu,eg,bv,bD,aC,aF,bE,iS,aM,Qa,aP,bT];generalize endF ps R Jc p L=y at q ⊢;unfold higD at q;refine bt ?_;refine cK (.inl rfl) ?_;dsimp only[fsts,aA,aH,aY,aE,aI,aW,aD,aG,Qa,aJ,aC,aB,aK,bA,bl,gy,gx];refine⟨rg S.h8,eW (λ(k:Nat)=> .int (k:Int)) (λk=> !decide (Nd.r k∈(cmG ps Jc p y).1)) (λi t=> ?_) ?_⟩
  ·dsimp only[bI,cV,cr,aP,Qa,aM,aC,aB,bT];refine⟨λT Y=> ?_,λo0 K k=> ?_⟩
   ·dsimp only[tstD];dsimp only[aU,br,dX,aD,aJ,Qa,aG,aC,aB,aK,bM,fsts,dtup,aA,aH,aT,aE,aI,aV,cg];refine gY ?_;refine⟨by decide,?_⟩;rw[uD,show keyD (.tup [.str "row",.int i])=Ja (Nd.key<|.r i) from rfl,nX,pw dl];exact Y
   ·dsimp only[elD];dsimp only[aD,aJ,Qa,aG,aC,aB,aK,bA];exact k
  dsimp only[bE,aF,aM,Qa,aP,aC,aB];refine bt ?_;refine cK (.inl rfl) ?_;dsimp only[fsts,aA,aH,aY,aE,aI,aW,aD,aG,Qa,aJ,aC,aB,aK,bA,bl,gy,gx];refine⟨rg S.w8,eW (λ(k:Nat)=> .int (k:Int)) (λk=> !decide (Nd.c k∈(cmG ps Jc p y).1)) (λi t=> ?_) ?_⟩
  ·dsimp only[bI,cV,cr,aP,Qa,aM,aC,aB,bT];refine⟨λT Y=> ?_,λo0 K k=> ?_⟩
   ·dsimp only[tstD];dsimp only[aU,br,dX,aD,aJ,Qa,aG,aC,aB,aK,bM,fsts,dtup,aA,aH,aT,aE,aI,aV,cg];refine gj ?_;refine⟨by decide,?_⟩;rw[uD,show keyD (.tup [.str "column",.int i])=Ja (Nd.key<|.c i) from rfl,nX,pw dl];exact Y
   ·dsimp only[elD];dsimp only[aD,aJ,Qa,aG,aC,aB,aK,bA];exact k
  dsimp only[bE,aF,aM,Qa,aP,aB,aC];refine df ?_;dsimp only[e9,dJ,aT,eX,aV,cA,aM,Qa,aC,aB,aG,aK];rw[A]
  (dsimp only[aC];refine⟨rfl,?_⟩)
  rw[Bb];dsimp only[aM,Qa,aB,aC,aG,aK,bH,aQ,aD,dg];refine aZ (cQ ce (c3 p) D) ?_
  (dsimp only[bA];refine⟨rfl,rfl,rfl,by decide,by decide,?_⟩)
  exact g.qr q
 refine bt ?_
 (dsimp only[bM,fsts,dtup,aA,aH,aT,aY,aE,aI,aV,aW,bJ,dnew,bl,aN,bE,aF,aM,Qa,aP,aC,aB];refine⟨by decide,by decide,by decide,?_⟩)
 refine ca ?_;dsimp only[aU,br,aN,aQ,aD,aG,Qa,aJ,aC,aB,aK];refine aZ (cQ ce (c3 p) D) ?_;dsimp only[ki];refine cW (λE=> ?_) λE=> ?_
 ·refine bt ?_;dsimp only[bM,fsts,dtup,aA,aH,aT,aY,aE,aI,aV,aW,aL,flags,cg,aD,aG,Qa,aJ,aC,aB,aK,dg,aS,aQ];refine aZ (cQ ce (c3 p) D) ?_
  (dsimp only[bA,bl];refine⟨rfl,?_⟩)
  refine gY ?_;dsimp only[aF,bl,bL,b9,bN];refine g.hc<|lx (b:=Jc) (m:=h) e B.nd (by exact zle Z U) (λy W r=>(lE<|B.val y W).1 r) ?_
  (dsimp only[aB,bw,bl];refine⟨rfl,?_⟩)
  refine gj ?_;dsimp only[aF,bl,bL,b9,bN];refine g.hc<|lx (b:=Jd) (m:=w) e B.nd (by exact zle Z U) (λy W r=>(lE<|B.val y W).2 r) ?_
  (dsimp only[aB,bw,bl,bE,aF,aM,Qa,aP,aC];refine⟨by decide,?_⟩)
  refine f _ _ _ ?_;unfold lowD;rw[Ud E];rfl
 ·refine f _ _ _ ?_;unfold lowD;rw[Ue E];rfl
theorem wJ(e:Env1 C G1 mg mb)(K:ClsC C cls8)(V:VOK c r s h w){d:D}(v:PlA c h w d o)(k:o=Jb->X "BadPlace" [])
  (t:∀p x,o=Ja p->outV c r s h w= .tab x->Q (.tup [lowD (psF c h w) h w p (endF (psF c h w) (r1F c r) Jd p x),higD (psF c h w) h w p (endF (psF c h w) (r1F c r) Jc p x)]) Jc)
  (y:∀p a Y,o=Ja p->outV c r s h w= .no a Y->X "NoTable" [dNs ((Qc h).filter a),dNs ((Qc w).filter Y)]):aR (aO C<|n+6) "walls" [(.tup [dC c,dI r,dI s],b),(d,b')] Q X:=by
 refine e.fn kM (bo 20 rfl) rfl λl u P PX g=> ?_;dsimp only[kM];dsimp only[aX,b8,bp];have G:Good (psF c h w) h w (r1F c r) (r2F c s) (outV c r s h w):=j0 (gG V.R) _ _ _ _ (fill0 V)<|QW _;refine bK ?_
 (dsimp only[d9,aH,aY,aA,aE,aI,aW,bk,bS,aF,bl,b5,aQ,aN,aD,aG,Qa,aC,aB,aK,gm,cm,cw,cE,gn,aL,flags,bG,tgl,bu,bH,bv,bD,aS];refine⟨rfl,rfl,?_⟩)
 refine g.hc (yf e K V v (λq=>g.qx<|k q) (λp x H T I U hx N=> ?_) λp a Y T hx=>g.qx<|y p a Y T hx);subst I;rw[hx] at G
 (dsimp only[km,aB,lO,tgl,bu,eg,bv,bD,aC,aF,bl];refine⟨trivial,.inr rfl,.inr rfl,?_⟩)
 rw[Qd,Qd,V.hr,V.hs];refine g.hc<|ur e (gG V.R) N (hZ (c:=c) V.R.h8 V.R.w8) G U ?_;dsimp only[aB];rw[qR];exact g.qr<|t p x T hx
inductive BadW:D->Prop
 |int {i:Int} (h:i<=0):BadW (.int i)
 |no {d:D} (h:disiG G1 d ["int"]=Ja Jd):BadW d
 |bool (b:Bool):BadW (.bool b)
theorem sA(e:Env1 C G1 mg mb){d:D}(hd:BadW d)(k:X "BadNumber" []):aR (aO C (n+2)) "need_number" [(d,b)] Q X:=by
 refine e.fn cY (bo 7 rfl) rfl λcl cu PQ PX gg=> ?_;dsimp only[cY];dsimp only[aX,b8,bp];have rs:∀ {Qq},dwss G1 cl cu [.raise "BadNumber" [.str "no number from 1 on"]] (Nb "thing" b d<|[]) Qq PX:=λ{Qq}=>by
  refine kH ⟨rfl,rfl,.inl rfl⟩ ?_
  (dsimp only[fsts,aA,aY,aH,aE,aW,aI,dq,bl];refine⟨rfl,?_⟩)
  exact gg.qx k
 refine ca ?_
 induction hd with
 |@int i hi=>
  (dsimp only[b7,br,aB,aU,cM,deq,aN,aD,aG,Qa,aK,bX,bC,aL,flags,aA,aH,aE,aI,bA,aF];refine⟨rfl,?_⟩)
  refine gg.hc<|iJ e ?_;dsimp only[br];refine lU (λh1=>rs) λh1=> ?_;refine⟨⟨rfl,rfl⟩,?_⟩;rw[Ud (WC hi h1)];exact rs
 |@no d hi=>
  (dsimp only[b7,br,aB,aU,cM,deq,aN,aD,aG,Qa,aK,bC,aL,flags,aA,aH,aE,aI];refine⟨rfl,?_⟩)
  refine gg.hc<|vl e hi ?_;dsimp only[br,i9,aB];exact rs
 |bool b=>
  (dsimp only[b7,br,aB,aU,cM,deq,aN,aD,aG,Qa,aK,bC,aL,flags,aA,aH,aE,aI,Bg,aF];refine⟨rfl,?_⟩)
  refine gg.hc<|pq e ?_;dsimp only[br,i9,aB];exact rs
theorem so(e:Env1 C G1 mg mb)(hi:1<=i)(k:Q .none Jc):aR (aO C (n+2)) "need_number" [(.int i,b)] Q X:=by
 refine e.fn cY (bo 7 rfl) rfl λl c P PX g=> ?_;dsimp only[cY];dsimp only[aX,b8,bp];refine ca ?_
 (dsimp only[b7,br,aB,aU,cM,deq,aN,aD,aG,Qa,aK,bX,bC,aL,flags,aA,aH,aE,aI,bA,aF];refine⟨rfl,?_⟩)
 refine g.hc<|iJ e ?_;dsimp only[br];rw[Ud (show i>=0 from QN (by decide) hi)]
 (dsimp only[ch,aC];refine⟨⟨rfl,rfl⟩,?_⟩)
 rw[Ue (λq:i=0=>by rw[q] at hi;exact absurd hi<|by decide)];exact g.qn k
def gwF(ps:List Pl)(R:Nat->Int)(x:Pl->Int)(wd:Int)(p:Pl):Bool:=decide<|endF ps R Jc p x p-endF ps R Jd p x p<wd
theorem sb(e:Env1 C G1 mg mb){ps:List Pl}{R u:Nat->Int}{x:Pl->Int}(S:Sz ps h w)(N:NearX ps xs)(l:ps.length<=64)(F:Good ps h w R u (.tab x))(D:p∈ps){wd:Int}{d V b:Bool}
  (k:Q (.bool<|gwF ps R x wd p) Jc):aR (aO C<|n+3) "Bounds.is_given_away" [(dIn ps x xs,d),(dP p,V),(.int wd,b)] Q X:=by
 refine e.fn cz (bo 52 rfl) rfl λM j i PX g=> ?_;dsimp only[cz];dsimp only[aX,b8,bp];have m:endF ps R Jd p x p<=x p:=h9 (hi:=Jd) S D _ x F;have B:x p<=endF ps R Jc p x p:=h9 (hi:=Jc) S D _ x F;unfold gwF at k;generalize f:endF ps R Jc p x=H at k B;generalize K:endF ps R Jd p x=L at k m;refine bt ?_;dsimp only[aQ,aD,aG,Qa,aJ,aC,aB,aK,eT];refine aZ (p7 _ _) ?_;dsimp only[dg];refine aZ (cQ ce (c3 p) D) ?_;dsimp only[bA,bE,aF,aM,Qa,aP,aC,aB];refine bt ?_
 (dsimp only[aQ,aD,aG,Qa,aJ,aC,aB,aK,aN,d9,aH,aY,aA,aE,aI,aW,bq,bA,cI,aF,bl,km,lO,tgl,bu,eg,bv,bD,aS];refine⟨rfl,trivial,?_⟩)
 refine g.hc (iY e S N l F D (.some _) λy W=> ?_);rw[f] at W;dsimp only[aB,bG,tgl,bu,eg,bv,bD,aC,e8,cm,dg];refine aZ (cQ ce (c3 p) D) ?_;dsimp only[bA,bE,aF,aM,Qa,aP,aB,aC];refine ca ?_;dsimp only[aU,br,aD,aG,Qa,aC,aB,aK,bq,bA,cT,oX];have t:y p<=H p:=W.elim (λq=>q▸Kc _) λ⟨_,_,_,q⟩=>q;refine cW (λE=> ?_) λE=> ?_
 ·rw[Ue (KF.mpr<|zgw1 E t m)] at k;refine bK ?_;dsimp only[bV,aF];exact g.qr k
 have P:y=H:=W.elim id λ⟨v,c,Z,_⟩=>absurd (sj c▸Z:x p+wd<=y p) λq=>E<|zgw2 q;subst P;refine f7 ?_;refine bK ?_
 (dsimp only[aU,aF,aD,aG,Qa,aC,aB,aK,bq,aQ,aN,d9,aH,aY,aA,aE,aI,aW,bA,cT,bl,km,lO,tgl,bu,eg,bv,bD,aS];refine⟨rfl,trivial,?_⟩)
 refine g.hc (nC e S N l F D (.some _) λz T=> ?_);rw[K] at T;dsimp only[aB,bG,tgl,bu,eg,bv,bD,aC,e8,cm,dg];refine aZ (cQ ce (c3 p) D) ?_;dsimp only[cT,l5]
 rcases T with rfl|⟨v,c,Z,o⟩
 ·exact g.qr k
 ·have Z:z p<=y p-wd:=sj c▸Z;have o:L p<=z p:=o;rw[Ue (KF.mpr<|zgw3 Z o)] at k;rw[Ue (KF.mpr<|zgw4 Z)];exact g.qr k
theorem sH(e:Env1 C G1 mg mb)(k:Q (.bool Jd) Jc):aR (aO C (n+1)) "is_view" [(.list [],b)] Q X:=by
 refine e.fn f_is_view (bo 11 rfl) rfl λl c P PX g=> ?_;show dwss G1 l c (.if_ (.or_ (.not_<|.isi (.loc "thing") ["tuple"])<|.or_ (.cmp .ne (.bi .len [.loc "thing"])<|.int 3) (.not_<|.call "is_grid" [.sub (.loc "thing") (.int 0)])) [.ret (.bool Jd)] []::f_is_view.b.drop 1) _ _ _;generalize f_is_view.b.drop 1=r;dsimp only[f_is_view];dsimp only[aX,b8,bp];refine ca ?_
 (dsimp only[b7,br,aB,bC,aL,flags,aA,aH,aE,aI,aQ,aN,aD,aG,Qa,aJ,aC,aK,bw,aU,d4,deq,bk,bS,bX,b5,cw,aV,cE,cp,aT,A1,il,i9];refine⟨.inr rfl,?_⟩)
 refine bK ?_;dsimp only[bV,aF];exact g.qr k
theorem oF(e:Env1 C G1 mg mb)(k:X "BadView" []):aR (aO C (n+2)) "need_view" [(.list [],b)] Q X:=by
 refine e.fn ec (bo 12 rfl) rfl λl c P PX g=> ?_;dsimp only[ec];dsimp only[aX,b8,bp];refine ca ?_
 (dsimp only[bC,br,aL,flags,aA,aH,aE,aI,aD,aG,Qa,aB,aK,bw,aS];refine⟨rfl,?_⟩)
 refine g.hc<|sH e ?_;dsimp only[br,i9,aB];refine kH ⟨rfl,rfl,.inl rfl⟩ ?_
 (dsimp only[fsts,aA,aY,aH,aE,aW,aI,dq,bl];refine⟨rfl,?_⟩)
 exact g.qx k
theorem vp(e:Env1 C G1 mg mb){d:D}(k:X "BadView" []):aR (aO C (n+3)) "given_away" [(.list [],b),(d,b')] Q X:=by
 refine e.fn cF (bo 21 rfl) rfl λl c P PX g=> ?_;dsimp only[cF];dsimp only[aX,b8,bp];refine fS ?_
 (dsimp only[aL,flags,aA,aH,aE,aI,aD,aG,Qa,aJ,aC,aB,aK,bw,aS];refine⟨rfl,?_⟩)
 exact g.hc<|oF e (g.qx k)
theorem ut(e:Env1 C G1 mg mb)(V:VOK c r s h w){d:D}(v:BadW d)(k:X "BadNumber" []):aR (aO C (n+5)) "given_away" [(.tup [dC c,dI r,dI s],b),(d,b')] Q X:=by
 refine e.fn cF (bo 21 rfl) rfl λl u P PX g=> ?_;dsimp only[cF];dsimp only[aX,b8,bp];refine fS ?_
 (dsimp only[aL,flags,aA,aH,aE,aI,aD,aG,Qa,aJ,aC,aB,aK,bG,tgl,bu,bH,bv,bD,aS];refine⟨rfl,?_⟩)
 refine g.hc<|gO e V ?_;refine fS ?_
 (dsimp only[aL,flags,aA,aH,aE,aI,aD,aG,Qa,aJ,aC,aB,aK];refine⟨rfl,?_⟩)
 exact g.hc<|sA e v (g.qx k)
theorem xu(e:Env1 C G1 mg mb)(K:ClsC C cls8)(V:VOK c r s h w){wd:Int}(d:1<=wd)
  (t:∀x,outV c r s h w= .tab x->Q (.list<|((psF c h w).filter (gwF (psF c h w) (r1F c r) x wd)).map dP) Jc)
  (v:∀a Y,outV c r s h w= .no a Y->X "NoTable" [dNs ((Qc h).filter a),dNs ((Qc w).filter Y)]):aR (aO C<|n+6) "given_away" [(.tup [dC c,dI r,dI s],b),(.int wd,b')] Q X:=by
 refine e.fn cF (bo 21 rfl) rfl λl u P PX g=> ?_;dsimp only[cF];dsimp only[aX,b8,bp];have G:Good (psF c h w) h w (r1F c r) (r2F c s) (outV c r s h w):=j0 (gG V.R) _ _ _ _ (fill0 V)<|QW _;refine fS ?_
 (dsimp only[aL,flags,aA,aH,aE,aI,aD,aG,Qa,aJ,aC,aB,aK,bG,tgl,bu,bH,bv,bD,aS];refine⟨rfl,?_⟩)
 refine g.hc<|gO e V ?_;refine fS ?_
 (dsimp only[aL,flags,aA,aH,aE,aI,aD,aG,Qa,aJ,aC,aB,aK,bA,aF];refine⟨rfl,?_⟩)
 refine g.hc<|so e d ?_;refine bt ?_
 (dsimp only[aL,flags,aA,aH,aY,aE,aI,aW,aD,aG,Qa,aJ,aC,aB,aK,bG,tgl,bu,bH,bv,bD,aS,bL,b9,bN];refine⟨rfl,rfl,?_⟩)
 refine g.hc (jc e V (λx hx=> ?_) λa Y hx=>g.qx<|v a Y hx);rw[hx] at G;dsimp only[aB,dg,aF,bl,bL];refine g.hc (uT e K (hZ V.R.h8 V.R.w8) λH N=> ?_);dsimp only[aB,lO,tgl,bu,eg,bv,bD,aC,bE,aF,aM,Qa,aP];refine bK ?_;refine cK (.inl rfl) ?_
 (dsimp only[fsts,aA,aH,aY,aE,aI,aW,cZ,aL,flags,aQ,aN,aD,aG,Qa,aC,aB,aK,bG,tgl,bu,bH,bv,bD,cS,cm,bw,aS,bL,b9,bN];refine⟨rfl,?_⟩)
 refine g.hc<|hA e V.R ?_;dsimp only[c4,aB,bw,bl];refine cN dP dP (gwF (psF c h w) (r1F c r) x wd) (λp D=> ?_) ?_
 ·dsimp only[dP];dsimp only[bI,cV,cr,aP,Qa,aM,aC,aB,bT];refine⟨λT q=> ?_,λo0 K k=> ?_⟩
  ·dsimp only[tstD]
   (dsimp only[d9,aH,aA,aE,aI,aD,aJ,Qa,aG,aC,aB,aK,bA,aF,bG,tgl,bu,eG,bv,dt,km,lO,eg,bD,aS];refine⟨rfl,trivial,?_⟩)
   exact g.hc<|sb e (gG V.R) N (hZ (c:=c) V.R.h8 V.R.w8) G D q
  ·dsimp only[elD];dsimp only[aD,aJ,Qa,aG,aC,aB,aK,bG,tgl,bu,eG,bv,dt];exact k
 dsimp only[aF];exact g.qr<|t x hx
end
theorem t6(l:List Nat):D.okd 39 (dNs l)=Jc:=by rw[eh];exact cx _ (λa=>eO _ _) _
theorem xN{l:List D}(h:0<l.length)(k:Int):∃d,d∈l/\dsub (.list l) (.int (k.fmod (l.length:Nat)))=Ja d:=by
 obtain⟨N,p⟩:=fF (a:=k) (b:=(l.length:Int))<|QZ.mpr h;have J:(k.fmod (l.length:Nat)).toNat<l.length:=(Wf N).mpr p;refine⟨l[(k.fmod (l.length:Nat)).toNat],KQ _,?_⟩;show((place l.length<|k.fmod (l.length:Nat)).bind λj=>l[j]?)=_;rw[jm N p];exact Qf J
section
variable{C:Cx}{mg mb:Jq->Option Jf}{n:Nat}{Q:D->Bool->Prop}{X:DX}
theorem wO(e:Env1 C G1 mg mb){r s:List Int}(R:Rect c h w)(I:r.length=h)(G:s.length=w){p:Pl}(t:p∈psF c h w){Y H:Nat->Bool}(h1:Y p.1=Jc)(F:H p.2=Jd)
  (J:∀q∈psF c h w,(hi=Jc->H q.2=Jc->Y q.1=Jc)/\(hi=Jd->q≠p->Y q.1=Jc->H q.2=Jc))(hv:v=(((Qc h).filter Y).map (r1F c r)).sum-(((Qc w).filter H).map (r2F c s)).sum){b V O E:Bool}(k:Q (.bool Jc) Jc):
  aR (aO C<|n+4) "_law_fence" [(.tup [dC c,dI r,dI s],b),(dP p,V),(.tup [.int v,dNs<|(Qc h).filter Y,dNs ((Qc w).filter H)],O),(.bool hi,E)] Q X:=by
 refine e.fn f__law_fence (bo 39 rfl) rfl λy W P PX g=> ?_;dsimp only[f__law_fence];dsimp only[aX,b8,bp];refine ca ?_
 (dsimp only[b7,br,aB,bC,aL,flags,aA,aH,aE,aI,aQ,aN,aD,aG,Qa,aJ,aC,aK,bG,tgl,bu,eG,bH,bv,bD,dt,cS,cm,bA,aF,aU,d4,deq,bk,bS,bX,b5,mn,aT,aV,cE,cp,mi,il,ch];refine⟨.inr rfl,.inr rfl,⟨rfl,rfl⟩,?_⟩)
 rw[show decide (((0+1+1+1:Nat):Int)=3)=Jc from rfl]
 (dsimp only[ch,aC];refine⟨rfl,?_⟩)
 refine g.hc<|kF (cb:=Jc) e ?_;dsimp only[br,ch,aC];refine dS ?_;dsimp only[aD,aG,Qa,aJ,aC,aB,aK,bG,tgl,bu,eG,bH,bv,bD,dt,aS,je,jI,jv,jJ,gD,jQ,yP,jN,et,jl,jD,rY,aM,aP,bT];refine ca ?_
 (dsimp only[b7,br,aB,bC,aL,flags,aA,aH,aE,aI,bk,bS,aF,b5,aQ,aN,aD,aG,Qa,aJ,aC,aK,gm,cm,cw,cE,bw,aS,gn];refine⟨rfl,.inr rfl,?_⟩)
 rw[Qd,I];refine g.hc<|fC (cb:=Jc) e R.h8 ?_
 (dsimp only[br,ch,aC];refine⟨rfl,.inr rfl,?_⟩)
 rw[Qd,G];refine g.hc<|fC (cb:=Jc) e R.w8 ?_;dsimp only[br,ch,aC];obtain⟨p1,p2,o0⟩:=hH t;have o:∀l:List Nat,D.okds 40 (l.map λ(k:Nat)=>D.int (k:Int))=Jc:=λl=>cx _ (λa=>eO _ _) _;have f:∀d,dwss G1 y W (f__law_fence.b.drop 4) (Nb "_law_view_here" b (.tup [dC c,dI r,dI s])<|Nb "_law_place" V (dP p)<|Nb "_law_shut" d (.tup [.int v,dNs<|(Qc h).filter Y,dNs ((Qc w).filter H)])<|Nb "_law_high" E (.bool hi)<|Nb "_law_number" Jd (.int v)<|Nb "_law_rows" Jd (dNs<|(Qc h).filter Y)<|Nb "_law_columns" Jd (dNs<|(Qc w).filter H)<|No "_law_row" Jb<|No "_law_column" Jb<|[]) P PX:=λd=>by
  dsimp only[f__law_fence,Yz];refine ca ?_;dsimp only[b7,br,aB,aU,iU,aD,aG,Qa,aJ,aC,aK,aQ,aN,dX];refine aZ (lh p) ?_;rw[iT];refine⟨⟨rfl,o _⟩,?_⟩;rw[gf,Ud (Qi.mpr ⟨Qg.mpr p1,h1⟩)];dsimp only[ch,aC];refine aZ (lM p) ?_;rw[iT];refine⟨⟨rfl,o _⟩,?_⟩;rw[gf,Ue (λq=>by rw[(Qi.mp q).2] at F;exact ft F.symm)];dsimp only[aC];refine d3 (.inl rfl) ?_
  (dsimp only[fsts,aA,aH,aY,aE,aI,aW,cZ,aL,flags,aD,aG,Qa,aJ,aC,aB,aK,bG,tgl,bu,bH,bv,bD,aS,bL,b9,bN];refine⟨rfl,?_⟩)
  refine g.hc<|ig (cb:=Jc) e R ?_;dsimp only[c4,aB,bw,bl,bE];refine dK dP (λo0 L=>∃u Z,L=(Nb "_law_view_here" b (.tup [dC c,dI r,dI s])<|Nb "_law_place" V (dP p)<|Nb "_law_shut" d (.tup [.int v,dNs<|(Qc h).filter Y,dNs ((Qc w).filter H)])<|Nb "_law_high" E (.bool hi)<|Nb "_law_number" Jd (.int v)<|Nb "_law_rows" Jd (dNs<|(Qc h).filter Y)<|Nb "_law_columns" Jd (dNs<|(Qc w).filter H)<|No "_law_row" u<|No "_law_column" Z<|[])) _ _ ⟨_,_,rfl⟩ ?_ ?_
  ·rintro j q L x ⟨u,Z,rfl⟩ K m;have x:=QE x;obtain⟨q1,q2,o0⟩:=hH x;obtain⟨M,i⟩:=J q x;dsimp only[dP];dsimp only[gD,bu,eG,bv,dt,iS,aM,Qa,aP,aC,aB,bT];have A:decide (q.1∈(Qc h).filter Y)=Y q.1:=by
    rw[Kz,Uj,Qi,Qg];exact⟨λz=>z.2,λz=>⟨q1,z⟩⟩
   have B:decide (q.2∈(Qc w).filter H)=H q.2:=by
    rw[Kz,Uj,Qi,Qg];exact⟨λz=>z.2,λz=>⟨q2,z⟩⟩
   have m:=m _ ⟨Ja (.int q.1,Jc),Ja (.int q.2,Jc),rfl⟩;refine ca ?_;dsimp only[cf,aU,br,dX,aD,aG,Qa,aC,aB,aK,iU];refine iF (λU=> ?_) λU=> ?_
   ·subst U;rw[iT];refine⟨⟨rfl,o _⟩,?_⟩;rw[gf,B];refine iF (λS=> ?_) λS=> ?_
    ·rw[iT];refine⟨⟨rfl,o _⟩,?_⟩;rw[gf,A,M rfl S];dsimp only[ch,aC];refine ca ?_;dsimp only[cf,aU,br,d4,deq,aD,aG,Qa,aC,aB,aK,bM,fsts,dtup,aA,aH,aT,aE,aI,aV,dX,iU,bC,ch];exact m
    ·refine ca ?_;dsimp only[cf,aU,br,d4,deq,aD,aG,Qa,aC,aB,aK,bM,fsts,dtup,aA,aH,aT,aE,aI,aV,dX,iU,bC,ch];exact m
   ·subst U;refine ca ?_;dsimp only[cf,aU,br,d4,deq,aD,aG,Qa,aC,aB,aK,bM,fsts,dtup,aA,aH,aT,aE,aI,aV,dX,iU,bC,i9];rw[iT];refine⟨⟨rfl,o _⟩,?_⟩;rw[gf,A];refine iF (λT=> ?_) λT=> ?_
    ·rw[iT];refine⟨⟨rfl,o _⟩,?_⟩;rw[gf,B];refine jn (λS=> ?_) λS=> ?_
     ·exact m
     ·have N:q=p:=Classical.byContradiction λz=>by rw[i rfl z T] at S;exact ft S.symm
      refine⟨by decide,⟨rfl,rfl⟩,?_⟩;rw[show D.eqv (D.tup [.int (q.1:Int),.int (q.2:Int)]) (D.tup [.int (p.1:Int),.int (p.2:Int)])=decide (q=p) from pU q p,Ud N];dsimp only[ch,aC];exact m
    ·exact m
  ·rintro L ⟨u,Z,rfl⟩;refine hX ?_;refine bK ?_
   (dsimp only[aU,aF,cM,deq,aL,flags,aA,aH,aE,aI,aD,aG,Qa,aJ,aC,aB,aK,bw,aS,bG,tgl,bu,bH,bv,bD];refine⟨rfl,?_⟩)
   refine g.hc<|x5 (cb:=Jc) e R I G (λa T=>Qg.mp (Qi.mp T).1) (λa T=>Qg.mp (Qi.mp T).1) ?_
   (dsimp only[bX];refine⟨⟨rfl,rfl⟩,?_⟩)
   rw[Ud hv];exact g.qr k
 refine ca ?_;dsimp only[cf,aU,br,cM,deq,bM,fsts,dtup,aA,aH,aT,aE,aI,aV,bJ,dnew,aN,aD,aG,Qa,aJ,aC,aB,aK,bC];refine jn (λU=>f _) λU=> ?_;refine⟨by decide,by decide,by decide,?_⟩;refine⟨⟨?_,rfl⟩,?_⟩
 ·rw[mH,d7,d7,d7,lg,eO,t6,t6];rfl
 refine iF (λU=> ?_) λU=>f _;refine bK ?_;dsimp only[bV,aF];exact g.qr k
theorem tB(e:Env1 C G1 mg mb){r s:List Int}(R:Rect c h w)(T:r.length=h)(E:s.length=w){d:D}(k:Q (.bool Jc) Jc):
  aR (aO C<|n+4) "_law_fence" [(.tup [dC c,dI r,dI s],b),(d,V),(.tup [.int 0,.list [],.list []],W),(.bool Jd,U)] Q X:=by
 refine e.fn f__law_fence (bo 39 rfl) rfl λl u P PX g=> ?_;dsimp only[f__law_fence];dsimp only[aX,b8,bp];have nil:∀m,D.list []=dNs ((Qc m).filter λo0=>Jd):=λm=>by rw[Ym.mpr λo0 o0=>QC];rfl
 refine ca ?_
 (dsimp only[b7,br,aB,bC,aL,flags,aA,aH,aE,aI,aQ,aN,aD,aG,Qa,aJ,aC,aK,bG,tgl,bu,eG,bH,bv,bD,dt,cS,cm,bA,aF,aU,d4,deq,bk,bS,bX,b5,mn,aT,aV,cE,cp,mi,il,ch];refine⟨.inr rfl,.inr rfl,⟨rfl,rfl⟩,?_⟩)
 rw[show decide (((0+1+1+1:Nat):Int)=3)=Jc from rfl]
 (dsimp only[ch,aC];refine⟨rfl,?_⟩)
 refine g.hc<|kF (cb:=Jc) e ?_;dsimp only[br,ch,aC];refine dS ?_;dsimp only[aD,aG,Qa,aJ,aC,aB,aK,bG,tgl,bu,eG,bH,bv,bD,dt,aS,je,jI,jv,jJ,gD,jQ,yP,jN,et,jl,jD,rY,aM,aP,bT];refine ca ?_
 (dsimp only[b7,br,aB,bC,aL,flags,aA,aH,aE,aI,bk,bS,aF,b5,aQ,aN,aD,aG,Qa,aJ,aC,aK,gm,cm,cw,cE,bw,aS,gn];refine⟨rfl,.inr rfl,?_⟩)
 rw[Qd,T];have N:∀ (R:D->Bool->Prop) (Y:DX),R (.bool Jc) Jc->aR (aO C<|n+3) "_law_numbers" [(D.list [],Jd),(.int h,Jc)] R Y:=λt Y q=>by
  rw[nil h];exact fC (cb:=Jc) e R.h8 q
 have Z:∀ (R:D->Bool->Prop) (Y:DX),R (.bool Jc) Jc->aR (aO C<|n+3) "_law_numbers" [(D.list [],Jd),(.int w,Jc)] R Y:=λt Y q=>by
  rw[nil w];exact fC (cb:=Jc) e R.w8 q
 refine g.hc<|N _ _ ?_
 (dsimp only[br,ch,aC];refine⟨rfl,.inr rfl,?_⟩)
 rw[Qd,E];refine g.hc<|Z _ _ ?_;dsimp only[br,ch,aC];refine ca ?_
 (dsimp only[cf,aU,br,cM,deq,bM,fsts,dtup,aA,aH,aT,aE,aI,aV,bJ,dnew,aN,aD,aG,Qa,aJ,aC,aB,aK,bC,i9];refine⟨by decide,by decide,by decide,⟨rfl,rfl⟩,?_⟩)
 rw[ci];dsimp only[aB];refine bK ?_;dsimp only[bV,aF];exact g.qr k
variable{cb:Bool}
theorem uO(e:Env1 C (GB cb) mg mb){r s:List Int}(R:Rect c h w)(T:r.length=h)(E:s.length=w){a Y:Nat->Bool}
  (l:∀p∈psF c h w,a p.1=Jc->Y p.2=Jc)(S:0<(((Qc h).filter a).map (r1F c r)).sum-(((Qc w).filter Y).map (r2F c s)).sum)(k:Q (.str "none") Jc):
  aR (aO C<|n+5) "_law_class" [(.tup [dC c,dI r,dI s],b),(.exc "NoTable" [dNs ((Qc h).filter a),dNs ((Qc w).filter Y)],b')] Q X:=by
 refine e.fn dj (bo 43 rfl) rfl λM u P PX g=> ?_;dsimp only[dj];dsimp only[aX,b8,bp];refine bt ?_
 (dsimp only[bJ,fsts,dnew,aA,aH,aT,aY,aE,aI,aV,aW,cp,bl,aD,aG,Qa,aJ,aC,aB,aK,bE,aF,aM,aP];refine⟨.inr rfl,?_⟩)
 refine hV (v:=Jd) rfl ?_;refine⟨.inr rfl,?_⟩;refine hV (v:=Jd) rfl ?_;refine⟨.inr rfl,?_⟩;refine hV (v:=Jc) rfl ?_;refine⟨by decide,?_⟩;refine ca ?_
 (dsimp only[b7,br,aB,bC,cp,aT,aV,aD,aG,Qa,aC,aK,aU,d4,deq,aN,m7,bX,x7,dz];refine⟨.inr rfl,?_⟩)
 refine hV (v:=Jd) rfl ?_;dsimp only[aC];refine jF (v:=[Jd,Jd,Jc]) rfl ?_;refine⟨⟨rfl,rfl⟩,?_⟩;refine⟨.inr rfl,?_⟩;refine hV (v:=Jc) rfl ?_;dsimp only[ch,aC];refine ca ?_;dsimp only[aQ,aN,aD,aG,Qa,aB,aC,aK];refine aZ (v:= .bool Jc) rfl ?_;dsimp only[br,aB];refine bK ?_
 (dsimp only[aL,flags,aA,aH,aY,aE,aI,aW,aD,aG,Qa,aC,aB,aK,zJ,tgl,bu,bH,bv,bD,aS,bL,bG,b9,eL,bN];refine⟨rfl,?_⟩)
 refine g.hc<|vQ e R T E l S ?_;dsimp only[aB,yU,aF];exact g.qr k
inductive BadK:String->D->Bool->Bool->Prop
 |view:BadK "BadView" (.str "view") Jc Jd
 |num:BadK "BadNumber" (.str "number") Jd Jc
theorem BadK.is{d:D}(h:BadK c d u v):A4 (disiG (GB cb) (.exc c []) ["BadView"]=Ja u) (disiG (GB cb) (.exc c []) ["BadNumber"]=Ja v) (disiG (GB cb) (.exc c []) ["NoTable"]=Ja Jd) (disiG (GB cb) (.exc c []) ["BadPlace","BadTable","NotHidden"]=Ja Jd/\disiG (GB cb) (.exc c []) ["ValueError"]=Ja Jc/\decide (((List.count Jc [u,v,Jd]:Nat):Int)=1)=Jc/\Jc∈ [u,v,Jd]/\dsub (.list [.str "view",.str "number"]) (.int (List.idxOf Jc [u,v,Jd]:Nat))=Ja d/\tg0 d Jb=Jb/\G1.sub c "VeilError"=Jc):=by
 induction h with
 |view=>exact⟨rfl,rfl,rfl,rfl,rfl,rfl,by decide,rfl,rfl,rfl⟩
 |num=>exact⟨rfl,rfl,rfl,rfl,rfl,rfl,by decide,rfl,rfl,rfl⟩
theorem vE(e:Env1 C (GB cb) mg mb){d:D}(h:BadK c d u v)(k:Q d Jc):aR (aO C (n+1)) "_law_class" [(dv,b),(.exc c [],b')] Q X:=by
 obtain⟨i,W,q,z,r,H,K,O,B,o0⟩:=h.is (cb:=cb);clear h;refine e.fn dj (bo 43 rfl) rfl λl f P PX g=> ?_;dsimp only[dj];dsimp only[aX,b8,bp];refine bt ?_
 (dsimp only[bJ,fsts,dnew,aA,aH,aT,aY,aE,aI,aV,aW,cp,bl,aD,aG,Qa,aJ,aC,aB,aK,bE,aF,aM,aP];refine⟨.inr rfl,?_⟩)
 refine hV i ?_;refine⟨.inr rfl,?_⟩;refine hV W ?_;refine⟨.inr rfl,?_⟩;refine hV q ?_;refine⟨by decide,?_⟩;refine ca ?_
 (dsimp only[b7,br,aB,bC,cp,aT,aV,aD,aG,Qa,aC,aK,aU,d4,deq,aN,m7,bX,x7,dz];refine⟨.inr rfl,?_⟩)
 refine hV z ?_;dsimp only[aC];refine jF (v:=[u,v,Jd]) rfl ?_;refine⟨⟨rfl,rfl⟩,?_⟩;rw[H]
 (dsimp only[ch,aC];refine⟨.inr rfl,?_⟩)
 refine hV r ?_;dsimp only[ch,aC];refine ca ?_;dsimp only[aQ,aN,aD,aG,Qa,aB,aC,aK];refine aZ (v:= .bool Jd) rfl ?_;dsimp only[br,aC];refine bK ?_
 (dsimp only[aQ,m7,BD,aD,aG,Qa,aB,aC,aK,dz,bJ,fsts,dnew,aA,aH,aT,aY,aE,aI,aV,aW,dq,bl];refine⟨by decide,?_⟩)
 refine jF (v:=[u,v,Jd]) rfl ?_;dsimp only[aT,aV];refine⟨⟨K,by decide⟩,?_⟩;refine aZ O ?_;rw[B];exact g.qr k
theorem qU(e:Env1 C G1 mg mb)(h:BadK c dk u v){dv d:D}(S:∀ (R:D->Bool->Prop) (Y:DX) (b b':Bool),Y c []->aR (aO C (m+1)) "given_away" [(dv,b),(d,b')] R Y)(k:Q (.tup [dk]) Jc):aR (aO C (m+2)) "_law_told" [(dv,b),(d,b')] Q X:=by
 refine e.fn dZ (bo 44 rfl) rfl λl f P PX g=> ?_;dsimp only[dZ];dsimp only[aX,b8,bp];refine uc ⟨rfl,rfl,rfl⟩ ?_;refine bK ?_
 (dsimp only[aM,Qa,aP,aB,aC,bM,fsts,dtup,aA,aH,aT,aY,aE,aI,aV,aW,aL,flags,aD,aG,aJ,aK,dq,bl];refine⟨rfl,?_⟩)
 refine g.hc<|S _ _ _ _ ?_;obtain⟨o0,o0,o0,o0,o0,o0,o0,o0,B,i⟩:=h.is (cb:=Jc);rw[Uh i,Ug (by decide)];refine bK ?_
 (dsimp only[bM,fsts,dtup,aA,aH,aT,aY,aE,aI,aV,aW,aL,flags,aD,aG,Qa,aB,aC,aK,zJ,tgl,bv,aF,bl];refine⟨rfl,?_⟩)
 refine g.hu<|vE (cb:=Jd) e.un h ?_
 (dsimp only[aB];refine⟨by decide,?_⟩)
 rw[B];exact g.qr k
theorem tZ(e:Env1 C G1 mg mb)(K:ClsC C cls8)(V:VOK c r s h w){wd:Int}(d:1<=wd)
  (t:∀x,outV c r s h w= .tab x->Q (.tup [.str "told",.list (((psF c h w).filter (gwF (psF c h w) (r1F c r) x wd)).map dP)]) Jc)
  (k:∀p Y,outV c r s h w= .no p Y->Q (.tup [.str "none"]) Jc):aR (aO C<|n+7) "_law_told" [(.tup [dC c,dI r,dI s],b),(.int wd,b')] Q X:=by
 refine e.fn dZ (bo 44 rfl) rfl λl u P PX g=> ?_;dsimp only[dZ];dsimp only[aX,b8,bp];have G:Good (psF c h w) h w (r1F c r) (r2F c s) (outV c r s h w):=j0 (gG V.R) _ _ _ _ (fill0 V)<|QW _;refine uc ⟨rfl,rfl,rfl⟩ ?_;refine bK ?_
 (dsimp only[aM,Qa,aP,aB,aC,bM,fsts,dtup,aA,aH,aT,aY,aE,aI,aV,aW,aL,flags,aD,aG,aJ,aK,bA,aF,bl,bG,tgl,bu,bH,bv,bD,aS,bL,b9,bN,dq];refine⟨rfl,?_⟩)
 refine g.hc<|xu e K V d (λx hx=> ?_) λp Y hx=> ?_
 ·(dsimp only[aB,bw,bl,aF];refine⟨by decide,?_⟩)
  exact g.qr<|t x hx
 ·rw[hx] at G;rw[Uh (show G1.sub "NoTable" "VeilError"=Jc from rfl),Ug (by decide)];refine bK ?_
  (dsimp only[bM,fsts,dtup,aA,aH,aT,aY,aE,aI,aV,aW,aL,flags,aD,aG,Qa,aB,aC,aK,zJ,tgl,bu,bH,bv,bD,aS,bL,bG,b9,eL,bN];refine⟨rfl,?_⟩)
  refine g.hu<|uO (cb:=Jd) e.un V.R V.hr V.hs G.1 G.2 ?_
  (dsimp only[aB,yU,bl,aF];refine⟨by decide,?_⟩)
  exact g.qr<|k p Y hx
theorem l3(e:Env1 C G1 mg mb)(V:VOK c r s h w)(t:∀x,outV c r s h w= .tab x->Q (.bool Jd) Jc)(k:∀p Y,outV c r s h w= .no p Y->Q (.bool Jc) Jc):
  aR (aO C<|n+6) "_law_none" [(.tup [dC c,dI r,dI s],b)] Q X:=by
 refine e.fn fV (bo 45 rfl) rfl λl u P PX g=> ?_;dsimp only[fV];dsimp only[aX,b8,bp];refine uc ⟨rfl,rfl,rfl⟩ ?_;refine fS ?_
 (dsimp only[aM,Qa,aC,aL,flags,aA,aH,aE,aI,aD,aG,aB,aK,bG,tgl,bu,bH,bv,bD,aS];refine⟨rfl,?_⟩)
 refine g.hc<|uJ e V (λx hx=> ?_) λp Y hx=> ?_
 ·refine bK ?_;dsimp only[bV,aF];exact g.qr<|t x hx
 ·rw[Uh (show G1.sub "NoTable" "NoTable"=Jc from rfl),Uh rfl];refine bK ?_;dsimp only[bV,aF];exact g.qr<|k p Y hx
end
inductive FnK(c:List (List (Option Int)))(r s:List Int)(h w:Nat)(p:Pl)(v:Int):Bool->D->Prop
 |zero (e0:v=0):FnK c r s h w p v Jd (.tup [.int 0,.list [],.list []])
 |cut {hi:Bool} {pa pb:Nat->Bool} (h1:pa p.1=Jc) (h2:pb p.2=Jd)
  (hcl:∀q∈psF c h w,(hi=Jc->pb q.2=Jc->pa q.1=Jc)/\(hi=Jd->q≠p->pa q.1=Jc->pb q.2=Jc)) (hv:v=(((Qc h).filter pa).map (r1F c r)).sum-(((Qc w).filter pb).map (r2F c s)).sum):
  FnK c r s h w p v hi (.tup [.int v,dNs<|(Qc h).filter pa,dNs ((Qc w).filter pb)])
section
variable{c:List (List (Option Int))}{r s:List Int}{h w:Nat}{p:Pl}{v:Int}{hi:Bool}{d:D}
theorem FnK.shape(k:FnK c r s h w p v hi d):∃A B,d= .tup [.int v,dNs A,dNs B]/\A.length<=h:=by
 induction k with
 |zero e=>subst e;exact⟨[],[],rfl,QY _⟩
 |cut=>exact⟨_,_,rfl,QD (KY _ _)<|QS Qt⟩
theorem yc{q:Prop}[Decidable q](h:q):(!decide q)=Jd:=by rw[Ud h];rfl
theorem uH{q:Prop}[Decidable q](h:¬q):(!decide q)=Jc:=by rw[Ue h];rfl
theorem lowK{x:Pl->Int}(V:VOK c r s h w)(D:p∈psF c h w)(F:Good (psF c h w) h w (r1F c r) (r2F c s) (.tab x))(E:¬ (glG Jd p∈(cmG (psF c h w) Jd p x).1/\(Jd=Jd->x p≠0))):FnK c r s h w p (x p) Jd (lowD (psF c h w) h w p x):=by
 have S:=gG V.R;unfold lowD;by_cases i:x p>0
 ·rw[Ud i];obtain⟨b,Z⟩:=ug (hi:=Jd) S F D;have O:Nd.c p.2∉(cmG (psF c h w) Jd p x).1:=λq=>E ⟨q,λo0 z=>by rw[z] at i;exact absurd i<|Int.lt_irrefl 0⟩;refine .cut (Ud b) (Ue O) (λq o=>⟨λz=>ft z,λo0 e z=>Ud<|(Z q o e).1 (Uf z)⟩) ?_;exact uk S F D (λq o e=>(Z q o e).2) (Ud b)<|decide_eq_false O
 ·rw[Ue i];exact .zero<|WC (KF.mp i) (F.1 p D)
theorem higK{x:Pl->Int}(V:VOK c r s h w)(D:p∈psF c h w)(F:Good (psF c h w) h w (r1F c r) (r2F c s) (.tab x))(E:¬ (glG Jc p∈(cmG (psF c h w) Jc p x).1/\(Jc=Jd->x p≠0))):FnK c r s h w p (x p) Jc (higD (psF c h w) h w p x):=by
 have S:=gG V.R;obtain⟨b,Z⟩:=ug (hi:=Jc) S F D;have O:Nd.r p.1∉(cmG (psF c h w) Jc p x).1:=λq=>E ⟨q,λz=>tf z⟩;have T:=yc (q:=Nd.c p.2∈(cmG (psF c h w) Jc p x).1) b;refine .cut (uH O) T (λq o=>⟨λo0 z=> ?_,λz=>tf z⟩) ?_
 ·by_cases e:q=p
  ·subst e;rw[T] at z;exact ft z
  ·refine uH λy=> ?_;rw[yc ((Z q o e).1 y)] at z;exact ft z
 ·exact uk S F D (λq o e=>(Z q o e).2.imp (λz=>Uk (!·) z) id) (uH O) T
end
section
variable{C:Cx}{mg mb:Jq->Option Jf}{n:Nat}{Q:D->Bool->Prop}{X:DX}
theorem oJ(e:Env1 C G1 mg mb)(V:VOK c r s h w)(K:p∈psF c h w){d:D}(z:FnK c r s h w p v hi d){b H W E:Bool}(k:Q (.bool Jc) Jc):
  aR (aO C<|n+4) "_law_fence" [(.tup [dC c,dI r,dI s],b),(dP p,H),(d,W),(.bool hi,E)] Q X:=by
 induction z with
 |zero u=>exact tB e V.R V.hr V.hs k
 |cut N Y l hv=>exact wO e V.R V.hr V.hs K N Y l hv k
end
theorem o8:D.okd 40 (.str "told")=Jc:=by decide+kernel
theorem kO:D.okd 40 (.tup [.str "number"])=Jc:=by decide+kernel
theorem pD:D.okd 40 (.tup [.str "view"])=Jc:=by decide+kernel
theorem pi:D.okd 40 (.tup [.str "none"])=Jc:=by decide+kernel
section
variable{C:Cx}{mg mb:Jq->Option Jf}{n:Nat}{Q:D->Bool->Prop}{X:DX}
theorem wZ(e:Env1 C G1 mg mb){ns:List Int}(A:ns.length<=63)(k:∀wd:Int,1<=wd->Q (.int wd) Jc):aR (aO C (n+2)) "_law_width" [(.scr ns,b)] Q X:=by
 refine e.fn fb (bo 27 rfl) rfl λM u P PX g=> ?_;dsimp only[fb];dsimp only[aX,b8,bp];refine bt ?_
 (dsimp only[aL,flags,aA,aH,aY,aE,aI,aW,aN,aF,bl,aD,aG,Qa,aJ,aC,aB,aK,fN,bL];refine⟨rfl,?_⟩)
 refine g.hc<|dc e A ?_;dsimp only[aB,bA,bE,aF,aM,Qa,aP,aC];refine bt ?_
 (dsimp only[bq,aN,aD,aG,Qa,aJ,aC,aB,aK,bA,fq,bE,aF,aM,aP];refine⟨by decide,by decide,?_⟩)
 generalize (mixF ns 4).fdiv 8=m;refine bK ?_
 (dsimp only[bq,aQ,aN,aD,aG,Qa,aC,aB,aK,bA,cy,bJ,fsts,dnew,aA,aH,aT,aY,aE,aI,aV,aW,pZ,bl];refine⟨by decide,by decide,by decide,by decide,by decide,by decide,by decide,by decide,by decide,by decide,by decide,by decide,by decide,?_⟩)
 have q:=fF (a:=mixF ns 4) (b:=8) (by decide);refine aZ (fM (l:=[3,3,3,2,5,8,60,10^9].map m.fmod) q.1 q.2) ?_;dsimp only[aH,aI,cI,aF];refine g.qr<|k _ (KV ?_);obtain⟨a,T,L⟩:=Ql.mp<|get_mem (l:=[3,3,3,2,5,8,60,10^9].map m.fmod) ((Wf q.1).mpr q.2);refine QN ?_<|Int.le_of_eq L;exact(fF<|(by decide:∀a∈ [(3:Int),3,3,2,5,8,60,10^9],0<a) a T).1
inductive HLo(c:List (List (Option Int)))(r s:List Int)(h w:Nat)(p:Pl)(y z:Pl->Int):Prop
 |mk (Gy:Good (psF c h w) h w (r1F c r) (r2F c s) (.tab y)) (Gz:Good (psF c h w) h w (r1F c r) (r2F c s) (.tab z)) (kl:FnK c r s h w p (y p) Jd (lowD (psF c h w) h w p y)) (kh:FnK c r s h w p (z p) Jc (higD (psF c h w) h w p z)):HLo c r s h w p y z
theorem hlo(V:VOK c r s h w)(D:p∈psF c h w){x:Pl->Int}(hx:outV c r s h w= .tab x):HLo c r s h w p (endF (psF c h w) (r1F c r) Jd p x) (endF (psF c h w) (r1F c r) Jc p x):=by
 have S:=gG V.R;have G:Good (psF c h w) h w (r1F c r) (r2F c s) (outV c r s h w):=j0 S _ _ _ _ (fill0 V)<|QW _;rw[hx] at G;have E:=pY (hi:=Jd) S D (msG (r1F c r) Jd p x+1) x G<|QW _;have H:=pY (hi:=Jc) S D (msG (r1F c r) Jc p x+1) x G<|QW _;exact⟨E.1,H.1,lowK V D E.1 E.2,higK V D H.1 H.2⟩
theorem sO(e:Env1 C G1 mg mb)(K:ClsC C cls8)(V:VOK c r s h w)(D:p∈psF c h w){x:Pl->Int}(hx:outV c r s h w= .tab x){wd:Int}
  (k:∀v Z A B G I,FnK c r s h w p v Jd (.tup [.int v,dNs A,dNs B])->FnK c r s h w p Z Jc (.tup [.int Z,dNs G,dNs I])->decide (Z-v<wd)=gwF (psF c h w) (r1F c r) x wd p->Q (.tup [.tup [.int v,dNs A,dNs B],.tup [.int Z,dNs G,dNs I]]) Jc):
  aR (aO C<|n+6) "walls" [(.tup [dC c,dI r,dI s],b),(dP p,H)] Q X:=by
 refine wJ e K V (.ok D) (λq=>sn q) (λY y T F=> ?_) λo0 o0 o0 o0 q=>by rw[hx] at q;exact nomatch q
 rw[hx] at F;obtain rfl:=sj T;obtain rfl:x=y:=by cases F;rfl
 obtain⟨o0,o0,l,R⟩:=hlo V D hx;obtain⟨A,B,T,o0⟩:=l.shape;obtain⟨G,I,F,o0⟩:=R.shape;rw[T] at l;rw[F] at R;rw[T,F];exact k _ _ _ _ _ _ l R rfl
theorem vS(e:Env1 C G1 mg mb)(K:ClsC C cls8)(V:VOK c r s h w){p:Pl}(D:p∈psF c h w){x:Pl->Int}(hx:outV c r s h w= .tab x){wd:Int}
  (k:∀t u v Z,Rect t h w->NN t->hasF t c r s w=Jc->Rect u h w->NN u->hasF u c r s w=Jc->cell t p.1 p.2=v->cell u p.1 p.2=Z->decide (Z-v<wd)=gwF (psF c h w) (r1F c r) x wd p->Q (.tup [dT t,dT u]) Jc):
  aR (aO C<|n+6) "ends" [(.tup [dC c,dI r,dI s],b),(dP p,H)] Q X:=by
 refine yW e K V (.ok D) (λq=>sn q) (λY y T F=> ?_) λo0 o0 o0 o0 q=>by rw[hx] at q;exact nomatch q
 rw[hx] at F;obtain rfl:=sj T;obtain rfl:x=y:=by cases F;rfl
 obtain⟨G,z,o0,o0⟩:=hlo V D hx;obtain⟨o,U,J⟩:=hH D;have l:∀x:Pl->Int,cell (tabV c x h w) p.1 p.2=x p:=λx=>by rw[jY o U,J];rfl
 exact k _ _ _ _ (iB V.R) (qK V G.1) (n5 V G) (iB V.R) (qK V z.1) (n5 V z) (l _) (l _) rfl
theorem wE(e:Env1 C G1 mg mb)(K:ClsC C cls8)(V:VOK c r s h w)(D:p∈psF c h w){x:Pl->Int}(hx:outV c r s h w= .tab x){wd:Int}(S:gwF (psF c h w) (r1F c r) x wd p=Jc)(k:Q (.bool Jc) Jc):
  aR (aO C<|n+7) "_law_close" [(.tup [dC c,dI r,dI s],b),(dP p,H),(.int wd,W)] Q X:=by
 refine e.fn fm (bo 46 rfl) rfl λM u P PX g=> ?_;dsimp only[fm];dsimp only[aX,b8,bp];refine dS ?_
 (dsimp only[aL,flags,aA,aH,aY,aE,aI,aW,aD,aG,Qa,aJ,aC,aB,aK,bG,tgl,bu,bH,bv,bD,aS];refine⟨rfl,?_⟩)
 refine g.hc (sO (wd:=wd) e K V D hx λv Z A B G I l R T=> ?_);dsimp only[aB,bG,tgl,bu,gD,eG,bH,bv,bD,dt,aC,aF,bE,iS,aM,Qa,aP,bT];refine ca ?_
 (dsimp only[b7,br,aB,bC,aL,flags,aA,aH,aE,aI,bV,aF,aD,aG,Qa,aC,aK,bG,tgl,bu,eG,bH,bv,bD,dt,aS];refine⟨rfl,?_⟩)
 refine g.hc<|oJ e V D l ?_
 (dsimp only[br,ch,aC];refine⟨rfl,?_⟩)
 refine g.hc<|oJ e V D R ?_;dsimp only[br,ch,aC];refine f7 ?_;refine bK ?_;dsimp only[aU,aF,aD,aG,Qa,aC,aB,aK,bq,aQ,aN,bG,tgl,bu,eG,bH,bv,bD,dt,cS,cm,bA,cT,l5];rw[T,S];exact g.qr k
theorem wg(e:Env1 C G1 mg mb)(K:ClsC C cls8)(V:VOK c r s h w)(D:p∈psF c h w){x:Pl->Int}(hx:outV c r s h w= .tab x){wd:Int}(S:gwF (psF c h w) (r1F c r) x wd p=Jd){b H z:Bool}(k:Q (.bool Jc) Jc):
  aR (aO C<|n+7) "_law_apart" [(.tup [dC c,dI r,dI s],b),(dP p,H),(.int wd,z)] Q X:=by
 refine e.fn fk (bo 47 rfl) rfl λl f P PX g=> ?_;dsimp only[fk];dsimp only[aX,b8,bp];obtain⟨o,J,o0⟩:=hH D;refine dS ?_
 (dsimp only[aL,flags,aA,aH,aY,aE,aI,aW,aD,aG,Qa,aJ,aC,aB,aK,bG,tgl,bu,bH,bv,bD,aS];refine⟨rfl,?_⟩)
 refine g.hc (vS (wd:=wd) e K V D hx λt u v M T Z E U y j L F W=> ?_);rw[S] at W;dsimp only[aB,bG,tgl,bu,bH,bv,bD,aC,aF,bE,iS,aM,Qa,aP,bT];refine ca ?_
 (dsimp only[b7,br,aB,bC,aL,flags,aA,aH,aE,aI,aD,aG,Qa,aC,aK,bG,tgl,bu,bH,bv,bD,aS,bw];refine⟨rfl,?_⟩)
 refine g.hc<|nW e T Z ?_;rw[E]
 (dsimp only[br,ch,aC];refine⟨rfl,?_⟩)
 refine g.hc<|nW e U y ?_;rw[j];dsimp only[br,ch,aC];refine f7 ?_;refine bK ?_;dsimp only[aU,aF,aD,aG,Qa,aC,aB,aK,bq,aQ,aN,bw];refine aZ (lh p) ?_;refine aZ (ji U o) ?_;dsimp only[bw];refine aZ (lM p) ?_;refine aZ (kU U o J) ?_;dsimp only[bA];refine aZ (lh p) ?_;refine aZ (ji T o) ?_;dsimp only[bw];refine aZ (lM p) ?_;refine aZ (kU T o J) ?_;dsimp only[cT,oX];rw[L,F,Ud (show M-v>=wd from KF.mp<|of_decide_eq_false W)];exact g.qr k
theorem qN{ps:List Pl}{g:Pl->Bool}(o:q∈ps):decide (q∈ps.filter g)=g q:=by
 rw[Kz,Uj,Qi];exact⟨λz=>z.2,λz=>⟨o,z⟩⟩
theorem nN(l:List Pl):D.okds 40 (l.map dP)=Jc:=cx dP (λp=>rfl) _
theorem ng(l:List Pl):D.okd 40 (.list (l.map dP))=Jc:=by rw[eh];exact cx dP (λp=>rfl) _
theorem tw(l:List Pl):D.okd 40 (.tup [.str "told",.list (l.map dP)])=Jc:=by rw[mH,d7,d7,lg,eh,cx dP (λp=>rfl)];decide+kernel
theorem tu(e:Env1 C G1 mg mb)(K:ClsC C cls8)(V:VOK c r s h w){x:Pl->Int}(hx:outV c r s h w= .tab x){wd:Int}(k:Q (.bool Jc) Jc):
  aR (aO C<|n+8) "_law_listed" [(.tup [dC c,dI r,dI s],b),(.list<|((psF c h w).filter (gwF (psF c h w) (r1F c r) x wd)).map dP,H),(.int wd,W)] Q X:=by
 refine e.fn eM (bo 48 rfl) rfl λl f P PX F=> ?_;dsimp only[eM];dsimp only[aX,b8,bp];refine bt ?_
 (dsimp only[aL,flags,aA,aH,aY,aE,aI,aW,aD,aG,Qa,aJ,aC,aB,aK,bG,tgl,bu,bH,bv,bD,aS,bL,b9,bN];refine⟨rfl,?_⟩)
 refine F.hc<|ig (cb:=Jc) e V.R ?_;dsimp only[aB,bw,bE,aF,aM,Qa,aP,aC];have S:∀p∈psF c h w,(gwF (psF c h w) (r1F c r) x wd p=Jc->∀ (R:D->Bool->Prop) (Y:DX) (b H W:Bool),R (.bool Jc) Jc->aR (aO C<|n+7) "_law_close" [(.tup [dC c,dI r,dI s],b),(dP p,H),(.int wd,W)] R Y)/\(gwF (psF c h w) (r1F c r) x wd p=Jd->∀ (R:D->Bool->Prop) (Y:DX) (b H W:Bool),R (.bool Jc) Jc->aR (aO C<|n+7) "_law_apart" [(.tup [dC c,dI r,dI s],b),(dP p,H),(.int wd,W)] R Y):=λp U=>
  ⟨λq o0 o0 o0 o0 o0 k=>wE e K V U hx q k,λq o0 o0 o0 o0 o0 k=>wg e K V U hx q k⟩
 generalize gwF (psF c h w) (r1F c r) x wd=g at S ⊢;generalize psF c h w=I at S ⊢;clear hx V;refine ca ?_
 (dsimp only[b7,br,aB,aU,d4,deq,aD,aG,Qa,aJ,aC,aK,bC,cp,aT,aV,lG,il,ch];refine⟨.inr rfl,?_⟩)
 refine cK (.inl rfl) ?_;dsimp only[fsts,aA,aH,aY,aE,aI,aW,cZ,aD,aG,Qa,aJ,aC,aB,aK,bw,bL,c4];refine cN dP dP g (λp U=> ?_) ?_
 ·dsimp only[bI,cV,cr,aP,Qa,aM,aB,aC,bT];refine⟨λT J=> ?_,λo0 K k=> ?_⟩
  ·dsimp only[tstD];dsimp only[aU,br,iU,aD,aJ,Qa,aG,aC,aB,aK];rw[iT];refine⟨⟨jb p,nN _⟩,?_⟩;rw[ml,qN U];exact J
  ·dsimp only[elD];dsimp only[aD,aJ,Qa,aG,aB,aC,aK];exact k
 refine⟨⟨ng _,ng _⟩,?_⟩;rw[ci];dsimp only[ch,aC];refine f7 ?_;refine ca ?_
 (dsimp only[bC,br,bk,j8,aA,aE,b5];refine⟨.inr rfl,?_⟩)
 refine cj (.inl rfl) ?_;dsimp only[fsts,dz,aA,aH,aY,aE,aI,aW,cZ,aD,aG,Qa,aJ,aC,aB,aK,bw,bL,c4];refine bR dP (λo0=> .bool Jc) (λp U K k=> ?_) ?_
 ·dsimp only[bI,cV,cr,aP,Qa,aM,aC,aB,bT];dsimp only[elD]
  (dsimp only[cp,aT,aV,aD,aJ,Qa,aG,aC,aB,aK];refine⟨.inr rfl,?_⟩)
  exact k
 refine jF (eD _ _) ?_;rw[show(((I.filter g).map λo0=>Jc).all id)=Jc from Qy.mpr λb A=>by obtain⟨o0,o0,rfl⟩:=Ql.mp A;rfl];dsimp only[ch,aC];refine f7 ?_;refine d3 (.inl rfl) ?_;dsimp only[fsts,aA,aH,aY,aE,aI,aW,cZ,aD,aG,Qa,aJ,aC,aB,aK,bw,bL,je,jI,jv,jJ,gD,bu,bH,bv,bD,eG,dt,jQ,jN,et,jl,jD,c4];refine dK dP (λo0 L=>∃u E,L=(Nb "_law_view_here" b (.tup [dC c,dI r,dI s])<|Nb "_law_found" H (.list<|(I.filter g).map dP)<|Nb "_law_width_here" W (.int wd)<|Nb "_law_hidden_here" E (.list<|I.map dP)<|No "_law_place" u<|[])) _ _ ⟨_,_,rfl⟩ ?_ ?_
 ·rintro j q L o ⟨u,E,rfl⟩ K m;have o:=QE o;obtain⟨B,Z⟩:=S q o;dsimp only[cr,aM,Qa,aP,aB,aC,bT];have m:=m _ ⟨Ja (dP q,Jc),E,rfl⟩;refine ca ?_;dsimp only[cf,bC,br,aL,flags,aA,aH,aE,aI,aD,aG,Qa,aC,aB,aK,bA,aF,bG,tgl,bu,bH,bv,bD,aS,aU,iU];rw[iT];refine⟨⟨jb q,nN _⟩,?_⟩;rw[ml,qN o];refine iF (λN=> ?_) λN=> ?_
  ·refine⟨rfl,?_⟩;refine F.hc<|B N _ _ _ _ _ ?_;dsimp only[br,ch,aC];refine f7 ?_;refine ca ?_;dsimp only[cf,bC,br,aL,flags,aA,aH,aE,aI,aD,aG,Qa,aC,aB,aK,bA,aF,bG,tgl,bu,bH,bv,bD,aS,aU,dX];rw[iT];refine⟨⟨jb q,nN _⟩,?_⟩;rw[ml,qN o,N];dsimp only[ch,aC];exact m
  ·refine f7 ?_;refine ca ?_;dsimp only[cf,bC,br,aL,flags,aA,aH,aE,aI,aD,aG,Qa,aC,aB,aK,bA,aF,bG,tgl,bu,bH,bv,bD,aS,aU,dX];rw[iT];refine⟨⟨jb q,nN _⟩,?_⟩;rw[ml,qN o,N]
   (dsimp only[i9,aB];refine⟨rfl,?_⟩)
   refine F.hc<|Z N _ _ _ _ _ ?_;dsimp only[br,ch,aC];exact m
 ·rintro L ⟨u,E,rfl⟩;refine hX ?_;refine bK ?_;dsimp only[bV,aF];exact F.qr k
theorem v5{m:Int}(K:0<=m):∀d∈ [D.int 0,.int (0-1-m.fdiv 64),.bool Jc,.bool Jd,.none,.str "1",.list [.int 1],.tup [.int 1]],BadW d:=
 have c {d:D} {l:List D} (h:BadW d) (k:∀d∈l,BadW d):∀e∈d::l,BadW e:=List.forall_mem_cons.mpr ⟨h,k⟩
 c (.int<|Kc _) (c (.int<|Int.sub_nonpos_of_le (QN (by decide)<|Int.fdiv_nonneg K (by decide)))<|c (.bool _) (c (.bool _)<|c (.no rfl) (c (.no rfl)<|c (.no rfl) (c (.no rfl) λo0 h=>bQ h))))
theorem BB(e:Env1 C G1 mg mb)(K:ClsC C cls8){ns:List Int}(A:ns.length<=63)(k:Q (.bool Jc) Jc):aR (aO C (n+9)) "law" [(.scr ns,b')] Q X:=by
 refine e.fn rf (bo 49 rfl) rfl λL u P PX g=> ?_;dsimp only[rf];dsimp only[aX,b8,bp];refine bt ?_
 (dsimp only[aL,flags,aA,aH,aY,aE,aI,aW,aD,aG,Qa,aJ,aC,aB,aK,fN,aF,bl,bL];refine⟨rfl,?_⟩)
 refine g.hc (rV e A λc r s h w V=> ?_);dsimp only[aC,bG,tgl,bu,bH,bv,bD,je,jv,BE,dt,jN,et,jl,jD,aS,aM,Qa,aP,aB];refine bt ?_
 (dsimp only[aL,flags,aA,aH,aY,aE,aI,aW,aD,aG,Qa,aJ,aC,aB,aK,bG,tgl,bu,bH,bv,bD,aS,bL,b9,bN];refine⟨rfl,?_⟩)
 refine g.hc<|zz e ?_;dsimp only[aB,bG,tgl,bu,bH,bv,bD,aC,bE,aF,aM,Qa,aP];refine bt ?_
 (dsimp only[aL,flags,aA,aH,aY,aE,aI,aW,aD,aG,Qa,aJ,aC,aB,aK,fN,aF,bl,bL];refine⟨rfl,?_⟩)
 refine g.hc (wZ e A λwd J=> ?_);dsimp only[aB,bA,bE,aF,aM,Qa,aP,aC];refine bt ?_
 (dsimp only[aL,flags,aA,aH,aY,aE,aI,aW,aN,aF,bl,aD,aG,Qa,aJ,aC,aB,aK,fN,bL];refine⟨rfl,?_⟩)
 refine g.hc<|dc e A ?_;have M:=(uA ns 72).1;generalize mixF ns 72=m at M ⊢;dsimp only[aB,bA,bE,aF,aM,Qa,aP,aC];refine ca ?_
 (dsimp only[aU,br,cM,deq,aN,bq,aD,aG,Qa,aJ,aC,aB,aK,bA,cy,bX];refine⟨by decide,⟨rfl,rfl⟩,?_⟩)
 refine cW (λE=> ?_) λE=> ?_
 ·clear J;refine bt ?_
  (dsimp only[aQ,bq,aN,aD,aG,Qa,aJ,aC,aB,aK,bA,fq,cy,bJ,fsts,dnew,aA,aH,aT,aY,aE,aI,aV,aW,bM,dtup,bl,dq,fQ,bV,cT];refine⟨by decide,by decide,by decide,by decide,by decide,by decide,by decide,by decide,?_⟩)
  obtain⟨d,W,U⟩:=xN (l:=[.int 0,.int<|0-1-m.fdiv 64,.bool Jc,.bool Jd,.none,.str "1",.list [.int 1],.tup [.int 1]]) (Ye _)<|m.fdiv 8;have S:BadW d:=v5 M d W;refine aZ U ?_;rw[qR];dsimp only[bE,aF,aM,Qa,aP,aC,aB];clear U W E;refine ca ?_;obtain⟨j,T,B⟩:=pV (a:=m.fdiv 64) (b:=2) (by decide);replace T:(m.fdiv 64).fmod 2=(j:Int):=T;have i:∀f,dwss G1 L u [.ret (.cmp .eq (.loc "_law_handed")<|.loc "_law_view_here")] (Nb "_law_script" b' (.scr ns)<|Nb "_law_view_here" Jd (.tup [dC c,dI r,dI s])<|Nb "_law_handed" Jc (.tup [dC c,dI r,dI s])<|Nb "_law_width_here" Jc (.int wd)<|Nb "_law_number" Jc (.int m)<|Nb "_law_bad" Jc d<|No "_law_found" Jb<|No "_law_kept" Jb<|[]) (donFl f P) PX:=λf=>by
   refine bK ?_;dsimp only[aU,aF,cM,deq,aD,aG,Qa,aJ,aC,aB,aK];refine⟨⟨mc _ _ _,mc _ _ _⟩,?_⟩;rw[ci];exact g.qr k
  rcases j with o0|o0|j
  ·(dsimp only[aU,br,d4,deq,aQ,bq,aN,aD,aG,Qa,aJ,aC,aB,aK,bA,fq,cy,bJ,fsts,dnew,aA,aH,aT,aE,aI,aV,bM,dtup,dq,aL,flags,aY,aW,bl,bG,tgl,bu,bH,bv,bD,bL];refine⟨rfl,by decide,by decide,by decide,by decide,by decide,?_⟩)
   rw[T];refine aZ (v:= .tup [dC c,dI r,dI s]) rfl ?_;dsimp only[bG,tgl,bu,bH,bv,bD,aC,aS];refine g.hc<|qU e .num (λo0 o0 o0 o0 q=>ut (n:=n+2) e V S q) ?_;refine⟨by decide,by decide,by decide,by decide,by decide,by decide,?_⟩;refine aZ (v:= .tup [.str "number"]) rfl ?_;refine⟨⟨kO,kO⟩,?_⟩;rw[ci];exact i _
  ·(dsimp only[aU,br,d4,deq,aQ,bq,aN,aD,aG,Qa,aJ,aC,aB,aK,bA,fq,cy,bJ,fsts,dnew,aA,aH,aT,aE,aI,aV,bM,dtup,dq,aL,flags,aY,aW,bl,bG,tgl,bu,bH,bv,bD,bL];refine⟨rfl,by decide,by decide,by decide,by decide,by decide,?_⟩)
   rw[T];refine aZ (v:= .list []) rfl ?_;dsimp only[bw,aS];refine g.hc<|qU e .view (λo0 o0 o0 o0 q=>vp (n:=n+4) e q) ?_;refine⟨by decide,by decide,by decide,by decide,by decide,by decide,?_⟩;refine aZ (v:= .tup [.str "view"]) rfl ?_;refine⟨⟨pD,pD⟩,?_⟩;rw[ci];exact i _
  ·exact absurd B<|Kd.mpr (Nat.le_add_left 2 j)
 refine f7 ?_
 induction O:outV c r s h w with
 |no N z=>
  have o:∀ {x},outV c r s h w= .tab x->False:=λq=>by rw[O] at q;exact nomatch q
  refine bt ?_
  (dsimp only[aL,flags,aA,aH,aY,aE,aI,aW,aD,aG,Qa,aJ,aC,aB,aK,bA,aF,bl,bG,tgl,bu,bH,bv,bD,aS,bL,b9,bN];refine⟨rfl,?_⟩)
  refine g.hc (tZ e K V J (λo0 q=>(o q).elim) λo0 o0 o0=> ?_);dsimp only[aB,bG,tgl,bu,vJ,bv,dt,bE,aF,aM,Qa,aP,aC];refine ca ?_;dsimp only[aU,br,d4,deq,aD,aG,Qa,aJ,aC,aB,aK];refine⟨⟨mc _ _ _,mc _ _ _⟩,?_⟩;rw[ci];dsimp only[ch,aC];refine f7 ?_;refine ca ?_
  (dsimp only[aL,flags,aA,aH,aE,aI,aD,aG,Qa,aJ,aC,aB,aK,bG,tgl,bu,bH,bv,bD,aS];refine⟨rfl,?_⟩)
  refine g.hc (l3 e V (λo0 q=>(o q).elim) λo0 o0 o0=> ?_);dsimp only[br,aB];refine bK ?_
  (dsimp only[aU,aF,cM,deq,bM,fsts,dtup,aA,aH,aT,aE,aI,aV,dq,aD,aG,Qa,aJ,aC,aB,aK];refine⟨by decide,?_⟩)
  refine⟨⟨pi,pi⟩,?_⟩;rw[ci];exact g.qr k
 |tab x=>
  have G:∀ {N z},outV c r s h w= .no N z->False:=λq=>by rw[O] at q;exact nomatch q
  have t:∀ (wd:Int),1<=wd->∀ (R:D->Bool->Prop) (Y:DX) (b H:Bool),R (.tup [.str "told",.list (((psF c h w).filter (gwF (psF c h w) (r1F c r) x wd)).map dP)]) Jc->aR (aO C<|n+8) "_law_told" [(.tup [dC c,dI r,dI s],b),(.int wd,H)] R Y:=λwd I R Y b H q=>
   tZ e K V I (λy F=>by rw[O] at F;cases F;exact q) λo0 o0 q=>(G q).elim
  refine bt ?_
  (dsimp only[aL,flags,aA,aH,aY,aE,aI,aW,aD,aG,Qa,aJ,aC,aB,aK,bA,aF,bl,bG,tgl,bu,bH,bv,bD,aS,bL,b9,bN];refine⟨rfl,?_⟩)
  refine g.hc<|t _ J _ _ _ _ ?_;dsimp only[aB,bG,tgl,bu,vJ,bH,bv,bD,dt,aC,bE,aF,aM,Qa,aP];refine ca ?_;dsimp only[aU,br,d4,deq,aD,aG,Qa,aJ,aC,aB,aK];refine⟨⟨mc _ _ _,mc _ _ _⟩,?_⟩;rw[ci];dsimp only[ch,aC];refine f7 ?_;refine ca ?_
  (dsimp only[aL,flags,aA,aH,aE,aI,aD,aG,Qa,aJ,aC,aB,aK,bG,tgl,bu,bH,bv,bD,aS];refine⟨rfl,?_⟩)
  refine g.hc (l3 e V (λo0 o0=> ?_) λo0 o0 q=>(G q).elim);dsimp only[br,aC];refine f7 ?_;refine ca ?_;dsimp only[b7,br,aB,bC,aL,flags,aA,aH,aE,aI,aD,aG,Qa,aJ,aC,aK,bA,aF,aQ,aN,bG,tgl,bu,vJ,bH,bv,bD,dt,fP,cm,bw,aS,aU,d4,deq,dq,e8];refine⟨⟨o8,o8⟩,?_⟩;rw[ci]
  (dsimp only[ch,aC];refine⟨rfl,?_⟩)
  refine g.hc<|tu e K V O ?_;dsimp only[br,ch,aC];refine f7 ?_;refine bt ?_
  (dsimp only[bk,g6,aA,aE,b5,aQ,aN,aD,aG,Qa,aJ,aC,aB,aK,bG,tgl,bu,vJ,bH,bv,bD,dt,fP,cm,bw,xg];refine⟨.inr rfl,?_⟩)
  rw[cJ dP fx];dsimp only[aB,bE,aF,aM,Qa,aP,aC];refine vh ?_;rw[AD];unfold dtmp
  (dsimp only[fsts,aA,aH,aE,aI,bM,dtup,aT,aV,aN,aQ,aL,flags,aY,aW,bq,aD,aG,Qa,aJ,aC,aB,aK,bA,cI,aF,bl,bG,tgl,bu,bH,bv,bD,aS,bL,b9,bN];refine⟨rfl,?_⟩)
  refine g.hc<|t _ (KV<|QN (by decide) J) _ _ _ _ ?_
  (dsimp only[aB,bG,tgl,bu,vJ,bH,bv,bD,dt,aC,fP,cm,bw];refine⟨rfl,trivial,by decide,?_⟩)
  refine⟨c9<|by rw[Qd];exact zb1 (QD (KY _ _)<|hZ (c:=c) V.R.h8 V.R.w8) rfl,?_⟩;refine bK ?_
  (dsimp only[cf,aU,aF,cM,deq,aD,aG,Qa,aJ,aB,aC,aK,aQ,aN,fP,cm,br,bM,fsts,dtup,aA,aH,aT,aE,aI,aV,dq,aL,flags,bA,bG,tgl,bu,bH,bv,bD,aS];refine⟨rfl,?_⟩)
  refine g.hc<|t _ J _ _ _ _ ?_;refine⟨by decide,?_⟩;refine⟨⟨tw _,tw _⟩,?_⟩;rw[ci];dsimp only[aB];refine⟨⟨ng _,ng _⟩,?_⟩;rw[ci];exact g.qr k
theorem pure08(C:Cx)(mg mb:Jq->Option Jf)(g:GOK C G1 mg mb)(x:ExcOK C G1 mg mb)(k:C.ok)(J:∀t∈tab0,X4 λa o f body=>FnAt C t.f t.ps t.b a o f body)(l:∀c,kinds7.cl=Ja c->ClsC C c)(ns:List Int)(A:ns.length<=63):
  aO C 20 "law" [.scr ns] noPH (λv o0=>v= .bool Jc) λo0 o0=>False:=
 BB (n:=11) (b':=Jd) (Q:=λd o0=>d= .bool Jc) (X:=λo0 o0=>False) ⟨g,x,k,λt W=>(Qr.mp (show t∈tab0++cls8.ms from W)).elim (J t) λq=>(l _ rfl).rec λo0 o0 o0 o0 o0 m=>m t q⟩ (l _ rfl) A rfl noPH [.scr ns] [[]] _ _ (.cons ⟨⟨rfl,QD A (by decide)⟩,rfl⟩ (λq=>(nomatch q)) (λp D=>(nomatch D)) .nil) (λd b v T F q r=>by
  subst q;exact r.rd.1) λo0 o0 o0 o0 o0 q o0=>q
end
section
open PySem.W PyProof.Rows
section
variable{tb:String->Option Builtin}{p:Jn}{w:Jm}{n₀:Nat}{ann:Option Jf}
theorem si{n:Nat}:∀ {s s':SharedT} {t:Thread},kI tb p w n₀ ann n s t=Ja s'->topRun tb p w n₀ ann n s.abs t=Ja s'.abs:=by
 induction n with
 |zero=>exact λh=>ns h
 |succ n ih=>
  intro s s' t h;replace h:cond (through t) (Ja s) (cond (stepOk n₀ ann t) ((stepT (denote tb) p w s t).bind λq=>kI tb p w n₀ ann n q.1 q.2) Jb)=Ja s':=h;unfold topRun
  induction ht:through t with
  |true=>rw[ht] at h;exact Uk (λz=>Ja<|SharedT.abs z)<|sj h
  |false=>
   rw[ht] at h
   induction ho:stepOk n₀ ann t with
   |false=>rw[ho] at h;exact ns h
   |true=>
    rw[ho] at h;obtain⟨q,hs,h⟩:=Qn.mp h;rw[stepT_spec hs];exact ih h
theorem mf{life:Life}:∀ (os:List Jp) (t:BT) (n:Nat) (t':BT),nu os t n=Ja t'->absHeap t' (n+os.length) life=⟨(absHeap t n life).objs++os.toArray,life⟩
 |[],t,n,t',h=>by cases h;rw[Array.append_empty];rfl
 |o::os,t,n,t',h=>by
  have h:cond ((t.ins n o).get n).isSome (nu os (t.ins n o)<|n+1) Jb=Ja t':=h;cases g:((t.ins n o).get n).isSome with
  |false=>rw[g] at h;cases h
  |true=>
   rw[g] at h;have z:=mf (life:=life) os (t.ins n o) (n+1) t' h;rw[absHeap_ins g] at z;rw[Wi,<-Nat.add_assoc,QP,z];show Heap.mk ((absHeap t n life).objs.push o++os.toArray) life=_
   congr 1
   apply Array.ext';simp
theorem wG{s:Je}{sT:SharedT}(h:toT s=Ja sT):sT.abs=s:=by
 obtain⟨t,e,rfl⟩:=Qu.mp h;have z:=mf (life:=s.heap.life) _ _ _ _ e;obtain⟨⟨objs,life⟩,gens,drawn,toks,os⟩:=s;dsimp only at z ⊢;rw[Ww,Array.length_toList] at z;unfold SharedT.abs;dsimp only;rw[z]
 congr 2
 simp[absHeap,BT.list]
theorem pS{N:Nat}{s₀ s:Je}(h:js tb p w N s₀=Ja s):topFrom tb p w N s₀=Ja s:=by
 unfold js at h;unfold topFrom;cases e1:(s₀.heap.isNs JB&&s₀.gens.size==0) with
 |false=>rw[e1] at h;cases h
 |true=>
  rw[e1] at h;dsimp only at h ⊢;obtain⟨s₁,h1,h2⟩:=Qn.mp h;obtain⟨sT,h3,h4⟩:=Qn.mp h1;have z:=si h4;rw[wG h3] at z;rw[z];exact h2
theorem left_T{q:Jn}{loose:List Jq}{Xt:Je->Bool}{α:Type}{Yf:Je->α}{Ya:Jm->α}{N:Nat}{g0:Bool}
  (h:∀w:Jm,((fencedOpening Y9 p w N).bind (js Y9 p w N)).map (λs=>(openSeen q loose (importedModules p.main.body) Xt g0 s,Yf s))=Ja (openGood q loose,Ya w)):LeftO p q loose Xt Yf Ya N g0:=λw=>by
 obtain⟨s,e,a⟩:=Qu.mp<|h w;obtain⟨s₀,e1,e2⟩:=Qn.mp e;unfold openEnds;rw[e1];show Wt _ (topFrom Y9 p w N s₀)=_;rw[pS e2];exact Uk Ja a
end
end
end Vl.Internal
end
open PySem.W PyProof.Rows
set_option maxRecDepth 100000 in
set_option maxHeartbeats 0 in
theorem PySem.Challenge.cw_uf010011_10_holds : PySem.Challenge.rw_uf010011_10.Holds := by
 w_on
 refine holds_law (by decide+kernel) λsaid=> ?_;refine holds_open (q:=Vl.Internal.view7) (loose:=[]) (Xt:=λs=>recOk (RowW.records<|OpenRow.toRowW (OpenLaw.row PySem.Challenge.rw_uf010011_10)) s) (XP:=λo0 o0=>True) (Yf:=Hook.obs<|Vl.Internal.hookE Vl.Internal.kinds7) (Ya:=Hook.val<|Vl.Internal.hookE Vl.Internal.kinds7) (YP:=Hook.says<|Vl.Internal.hookE Vl.Internal.kinds7) (N:=16000) ?hl (Hook.of<|Vl.Internal.hookE Vl.Internal.kinds7) (Hook.keeps<|Vl.Internal.hookE Vl.Internal.kinds7) (λo0 o0=>trivial) (λo0 o0 o0 o0 o0=>trivial) (by rfl) (by rfl) (by rfl) (λs e=>recFacts_of e) (by rfl) (by assumption) (by decide+kernel) ⟨rfl,rfl,rfl,rfl,rfl,by decide+kernel⟩ ?hw ?hc
 case hl=>exact Vl.Internal.left_T Vl.Internal.hl8
 case hw=>w_witness2
 case hc=>exact Vl.Internal.law_walk (N:=20) [("MOST",.int 8),("ROW",.str "row"),("COLUMN",.str "column")] Vl.Internal.tab0 Vl.Internal.kinds7 rfl rfl rfl (by decide+kernel) (by decide+kernel) (by decide+kernel) (by decide) (λc q=>by cases q;rfl) (by decide+kernel) Vl.Internal.pure08
