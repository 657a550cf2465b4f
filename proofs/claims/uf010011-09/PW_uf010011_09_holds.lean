import PyProof.Rows.All
import PyProof.Logic
import PyProof.TupleKey
import PyProof.DictRoadsH
import PyProof.DictKinds
import PyProof.EqKinds
import KE.KDictList
import PyProof.ExcInit
import PyProof.ExcClass3
import PyProof.InstStoreFacts
import PyProof.AssignAttr
import PyProof.Cells
import PyProof.ExcBaseAll.ValueError
import OpenK.KWalk
import KE.KSortTup
import PyProof.Walks
import PyProof.WalksMore
import PyProof.StationsW
import PyProof.P3Statements
import PyProof.Dict
import PyProof.TupleIter
import PyProof.RangeIter
import PyProof.Rows.MatchSeqLen
import PyProof.CompIC
import KE.KTryMore
import PyProof.RulesAs
import PyProof.ExcAttrAll.ValueError
import PyProof.Rows.OwnQ
import Open.Head
import Open.Tree
import PyProof.EvalArms
import PyProof.Calls
import PyProof.CallRoads
import PyProof.PureInt
import PyProof.DefCall
import PyProof.SliceMore
import PyProof.ListOps
import PyProof.TupleOps
import PyProof.NoPylong
import PyProof.Rows.RuleB_small
import PyProof.Rows.RuleB_mod
import PyProof.Rows.RuleB_floordiv
import PyProof.Rows.SeqMore
import PyProof.Rows.TupTab
import PyProof.P3In
import PyProof.EqLayable
import PyProof.Rows.SortWalk
import PyProof.SumAny
import PyProof.MinMaxWalk
import PyProof.WalkInts
import PyProof.MaxThree
import PyProof.SeqI3
import PyProof.ConsumeWalk
import PyProof.TupleOfSeq
import PyProof.TupleCall
import PyProof.ListCopy
import PyProof.ListRange
import PyProof.Conv_int_bool
import PyProof.Rows.RuleN_abs
import PyProof.Rows.RuleN_isinstance
import KE.KDictOf
import PyProof.DictUpdate
import PyProof.IsiTupleOf
import PyProof.IsInstanceH
import PyProof.ListIndexNeg
import PyProof.Rows.TupMore
import PyProof.Rows.StrTemp
import PyProof.ZipIter
import PyProof.WalksEnum
import PyProof.EnumMake
import PyProof.RangeFor
import PyProof.CompFree
import PyProof.PlainList
import PyProof.ForAppend
import PyProof.Rows.Chain
import PyProof.Rows.ChunkLeaf
import PyProof.DictStraight
import PyProof.DictTable
import PyProof.RulesAssignMore
import PyProof.Raises
import PyProof.ObjNew
import PyProof.NsMap
import Wide.All
import OpenK.KLine
import PySem.Challenge.RW_uf010011_09
set_option linter.unusedVariables false
set_option linter.unusedSimpArgs false
set_option tactic.hygienic false
set_option compiler.extract_closed false
set_option bootstrap.genMatcherCode false
set_option genSizeOf false
set_option genSizeOfSpec false
set_option genInjectivity false
set_option backward.match.sparseCases false
open String renaming reduceBEq->Qa
open PySem.Str renaming ofString->Qb
open List renaming range->Qc, length_map->Qd, mem_map->Qi, mem_range->Qh, mem_filter->Qj, mem_append_right->Qe, map_cons->Qw, map_map->Qx, mem_singleton->Qk, mem_append->Qt, getElem?_eq_getElem->Qf, mem_cons->QB, length_range->Qr, map_congr_left->Qo, mem_append_left->Ql, getElem?_map->Qu, nodup_append->Qv, nodup_cons->QA, map_append->QC, all_eq_true->Qy, sum_cons->QH, length_append->QD, append_nil->QI, map->KQ, mem_of_getElem?->QJ, getElem?_eq_some_iff->QK, sum->Ww, take_length->Kl, nodup_range->Km, filter_cons_of_pos->QX, filter_cons_of_neg->QY, nodup_iff_pairwise_ne->QU, of_mem_zip->Kx, nil_append->Ky, filter->Wi, not_mem_nil->KC, append_assoc->Ks, getElem_mem->KN, map_nil->WD, length_cons->KW, sum_append->Wf, mem_cons_of_mem->KB, sublist_cons_self->Kq, length_filter_le->Ku, contains_cons->KY, getElem_of_mem->KT, getElem?_eq_none->KK, mem_cons_self->KZ, any_eq_true->Wl, getElem_range->Wa, map_eq_nil_iff->KU, length_nil->WJ, getElem?_set->Ws, getElem?_range->Wk, pairwise_map->Wu, length->Ys, filter_nil->WK, filter_filter->Wn, getD_eq_getElem?_getD->KV, ext_getElem?->WM, lookup->YF, zip_cons_cons->WH, ext_getElem->WT, getElem_map->WU, filterMap_map->WI, length_take->WV, getElem?_append_left->KX, filter_congr->WN, size_toArray->Yn, contains_nil->Yo, lookup_cons->Yv, length_singleton->WO, length_set->YA, getElem?_append_right->Wp, filter_append->Yg, countP_append->Yh, flatMap_append->WZ, length_eq_zero_iff->Yk, take_of_length_le->Yr, exists_cons_of_ne_nil->WW, getElem?_eq_none_iff->Yb, getElem?_of_mem->Yx
open Nat renaming le_trans->Qq, le_refl->Qz, not_lt->QT, zero_le->QN, lt_succ_self->QG, le_of_eq->Kd, lt_of_lt_of_le->QO, add_right_comm->QQ, add_le_add->Kg, le_of_succ_le->Kc, le_of_lt->KJ, lt_of_le_of_lt->Kh, lt_irrefl->KG, add_le_add_right->Kf, not_lt_zero->Kw, le_succ->Wo, succ_le_succ->KM, le_add_right->KP, le_of_ble_eq_true->Kt, add_le_add_left->KH, ne_of_lt->WE, zero_add->WP, lt_succ_of_lt->Wh, le_add_left->Wq, le_succ_of_le->Wt, ne_of_gt->Yj, min_le_right->Wy, succ_pos->YC, succ_lt_succ->WR, mul_le_mul->Yl, le_of_lt_succ->Ym, mul_le_mul_left->WX
open Bool renaming and_eq_true_iff->Qg, false_ne_true->QF, and_eq_true->QZ, not_eq_true'->Ka, eq_iff_iff->We, false_eq_true->WG, true_and->Yt, or_eq_true->Yy, and_false->YE
open Int renaming le_trans->QE, le_refl->QV, add_zero->QW, ofNat_lt->Kj, natCast_nonneg->QP, ofNat_le->Kk, not_lt->Kz, add_comm->Kr, add_assoc->KS, sub_eq_add_neg->Ko, zero_add->Wj, lt_of_lt_of_le->KL, le_antisymm->Wd, le_of_lt->WC, toNat_lt->WF, ofNat_inj->Wr, sub_sub->Yd, not_le->Yp, sub_zero->Yi, add_sub_cancel->Wm, le_add_of_nonneg_right->KD, add_sub_assoc->WL, sub_self->YB, toNat_of_nonneg->Wz, toNat_le->YD, sub_nonneg_of_le->Wv, sub_sub_self->Yu, lt_of_le_of_lt->Ye, min_eq_left->Yz, lt_add_one_of_le->WQ, add_le_add_right->Yw, le_add_of_nonneg_left->Yc
open PySem.Heap renaming get?_push_of_some->Qm, lt_size->QS, get?_push_size->QL, SameBut->KR, size_push->Kv, get?_update_self->Ki, get?_update_other->KF, get?_none_of_le->Wb, get?_update_ne->WA
open Option renaming bind_eq_some_iff->Qn, map_eq_some_iff->Qs, map->Wx, bind_some->KO, isNone_iff_eq_none->Ke, map_some->Wg
open Array renaming getElem?_eq_some_iff->Kn, getElem?_eq_getElem->KI, length_toList->WY, getElem?_eq_none->Yq, getElem?_setIfInBounds_self_of_lt->Wc
open PySem renaming wpAny_bind->YG, wpAny_pure->YH, wpAny_mono->YI, wpAny_holding->YJ, wpAny_standAt->YK, wpAny_field->YL, wpAny_call_entry->YM
set_option Elab.async false
set_option maxRecDepth 100000
set_option maxHeartbeats 0
set_option autoImplicit true
set_option relaxedAutoImplicit true
open Option renaming some->Ja, none->Jb
open Bool renaming true->Jc, false->Jd
open PySem
open PySem renaming Shared->Je,Value->Jf,Addr->Jg,wpAny->Jh,Heap->Ji,Around->Jj,Scope->Jk,Expr->Jl,World->Jm,Program->Jn,Stmt->Jo,Obj->Jp,Str->Jq,FuncData->Jr,Env->Js,model->Jt,truthy->Ju,mem_of_lookup->Jv,eval->Jw,rawInt->Jx,wpAny_loadPart_at->Jy,call_isinstance->Jz,mainGlobals->JA,wpAny_newObj_type->JB,sysModules->JC,starEach->JD,excClassObj->JE,wpAny_setField->JF,behindInMarks->JG,wpAny_dictEntries->JH,wpAny_Constant_none->JI,sizeLine->JJ,wpAny_execs_nil->JK,entryOfKey->JL,assignEach->JM,DictEntry->JN,cellsFrom->JO,isSubtype_type->JP,foldedSetIterable->JQ,swapsWith->JR,setFlight->JS,wpAny_typeNameOfWhole_keyiter->JT,sizeLine_eq->JU,NameKind->JV,backTo->JW,wpAny_isTrue_BoolOp->JX,typeLookup->JY,recursionLimit->JZ,OwnTail->J0,keywordEach->J1,ExceptHandler->J2,wpAny_execs_cons->J3,wpAny_Name->J4,wpAny_allTrue_And_cons->J5,size_of_entries->J6,isinstance_true->J7,wpAny_notOrdered_dict->J8,wpAny_allTrue_Or_cons->J9,wpAny_isTrue_Compare1->YN,pyIter->YO,PyData->YQ,wpAny_loadName_local->YR,compareOp->YS,isSubtype->YT,wpAny_isSubtype_exc->YU,atKey->YV,wpAny_setSeqItemAt->YW,bootBuiltins->YX,bindArgs->YY,plainObj_wpAny_Assign_Attribute->YZ,checkBuiltinCall->Y0,treeTable->Y1,pushCells->Y2,isTrue->Y3
noncomputable section
namespace Vl.Internal
theorem Y4{p:Prop}[Decidable p](h:p):decide p=Jc:=decide_eq_true h
theorem Y5{p:Prop}[Decidable p](h:¬p):decide p=Jd:=decide_eq_false h
theorem Y6{p:Prop}[Decidable p](h:decide p=Jc):p:=of_decide_eq_true h
theorem Y7{c:Prop}{h:Decidable c}(k:¬c){α:Sort _}{t e:α}:ite c t e=e:=if_neg k
theorem Y8{c:Prop}{h:Decidable c}(k:c){α:Sort _}{t e:α}:ite c t e=t:=if_pos k
theorem Y9{α:Type _}[BEq α][LawfulBEq α]{a b:α}(h:(a==b)=Jc):a=b:=eq_of_beq h
theorem Ua{p:Prop}[Decidable p]:(decide p=Jc)=p:=decide_eq_true_eq
theorem Ub{α:Sort _}{β:Sort _}{a b:α}(f:α->β)(h:a=b):f a=f b:=congrArg f h
inductive X2{α β:Type}(P:α->β->Prop):Prop
 |mk (a:α) (b:β) (h:P a b):X2 P
inductive X3{α β γ:Type}(P:α->β->γ->Prop):Prop
 |mk (a:α) (b:β) (c:γ) (h:P a b c):X3 P
inductive X4{α β γ δ:Type}(P:α->β->γ->δ->Prop):Prop
 |mk (a:α) (b:β) (c:γ) (d:δ) (h:P a b c d):X4 P
inductive X5{α β γ δ ε:Type}(P:α->β->γ->δ->ε->Prop):Prop
 |mk (a:α) (b:β) (c:γ) (d:δ) (e:ε) (h:P a b c d e):X5 P
inductive X6{α β γ δ ε ζ:Type}(P:α->β->γ->δ->ε->ζ->Prop):Prop
 |mk (a:α) (b:β) (c:γ) (d:δ) (e:ε) (f:ζ) (h:P a b c d e f):X6 P
inductive A3(a b c:Prop):Prop
 |mk (p:a) (q:b) (r:c):A3 a b c
inductive A4(a b c d:Prop):Prop
 |mk (p:a) (q:b) (r:c) (s:d):A4 a b c d
inductive A5(a b c d e:Prop):Prop
 |mk (p:a) (q:b) (r:c) (s:d) (t:e):A5 a b c d e
inductive A6(a b c d e f:Prop):Prop
 |mk (p:a) (q:b) (r:c) (s:d) (t:e) (u:f):A6 a b c d e f
inductive A8(a b c d e f g h:Prop):Prop
 |mk (p:a) (q:b) (r:c) (s:d) (t:e) (u:f) (v:g) (w:h):A8 a b c d e f g h
theorem ns{L:Type _}{a:L}{P:Prop}(h:Jb=Ja a):P:=by cases h
theorem sn{L:Type _}{a:L}{P:Prop}(h:Ja a=Jb):P:=by cases h
theorem bN{L:Type _}{a:L}{P:Prop}(h:a∈([]:List L)):P:=by cases h
theorem ft{P:Prop}(h:Jd=Jc):P:=by cases h
theorem tf{P:Prop}(h:Jc=Jd):P:=by cases h
theorem sj{L:Type _}{a b:L}(h:Ja a=Ja b):a=b:=Option.some.inj h
theorem wn{L:Type}{M:Model}{A:Jj}{c:Prop}[i:Decidable c]{a b:Sem L}{Q:L->Je->Prop}{E:Jf->Je->Prop}{s:Je}(C:¬c)(h:Jh M A b Q E s):Jh M A (if c then a else b) Q E s:=by rw[Y7 C];exact h
theorem wy{L:Type}{M:Model}{A:Jj}{c:Prop}[i:Decidable c]{a b:Sem L}{Q:L->Je->Prop}{E:Jf->Je->Prop}{s:Je}(C:c)(h:Jh M A a Q E s):Jh M A (if c then a else b) Q E s:=by rw[Y8 C];exact h
theorem zle{a b c:Nat}(h:a<=b)(k:b<=c):a<=c:=Qq h k
theorem zl{a b c:Nat}(h:a<=b)(k:b<c):a<c:=Kh h k
theorem zll{a b c:Nat}(h:a<b)(k:b<=c):a<c:=QO h k
theorem zq{a b c:Nat}(h:a<b)(k:b=c):a<c:=Nat.lt_of_lt_of_eq h k
theorem zs(h:a<b+1):a<=b:=Ym h
theorem zb1(h:a<=b)(k:Nat.ble (b+1) c=Jc):a<c:=Kh h<|Kt k
theorem zb2(h:a<=b)(k:Nat.ble b c=Jc):a<=c:=Qq h<|Kt k
theorem zim(n:Nat): -1000000<(n:Int):=KL (by decide)<|QP n
theorem zip'{a b:Nat}(h:a<=b)(k:b<=1000000:=by decide):(a:Int)<=1000000:=Kk.mpr<|Qq h k
theorem zk1{a b c d e:Nat}(i:a<=8)(N:b<=8)(p:c+d=17)(J:e<=a+b)(h:(d:Int)<e):c=c-1+1:=by
 cases c with
 |zero=>exact absurd (QO (Kj.mp h)<|Qq J (Kg i N))<|by rw[show d=17 from(WP d).symm.trans p];decide
 |succ c=>rfl
theorem ztn{x a y:Int}(h:x>0)(k:1<=a)(e:y=x-a):y.toNat<x.toNat:=(Int.toNat_lt_toNat h).mpr (by rw[e];exact Int.sub_lt_self x<|KL (by decide) k)
theorem zg1{a b c:Int}(h:a-b=0-c):a+c=b:=by rw[Int.zero_sub] at h;rw[<-Int.sub_neg,<-h,Yu]
theorem zg2{a b c:Int}(h:a-b=c-0):a=b+c:=by rw[Yi] at h;rw[<-h,Kr,Int.sub_add_cancel]
theorem zg3{r n x a:Int}(e:n=x+a)(k:1<=a)(h:n<=r):(r-n).toNat<(r-x).toNat:=ztn (Int.sub_pos_of_lt<|KL (e▸Int.lt_add_of_pos_right x (KL (by decide) k)) h) k<|by rw[e,Yd]
theorem zg4(h:a+ -x=b+0):x=a-b:=by rw[QW] at h;rw[<-h,<-Ko,Yu]
theorem zh1(h:y<8):(8*x+y) / 8=x:=by rw[Nat.mul_add_div (by decide),Nat.div_eq_of_lt h,Nat.add_zero]
theorem zh2(h:y<8):(8*x+y) % 8=y:=by rw[Nat.mul_add_mod,Nat.mod_eq_of_lt h]
theorem zh3(h:x<8)(k:y<8):8*x+y<64:=QO (Nat.add_lt_add_left k<|8*x)<|WX 8 (Nat.succ_le_of_lt h)
theorem zr1{a b c d:Int}(h:a+b=c):a+d+(b-d)=c:=by rw[KS,<-WL,Kr d b,Wm];exact h
theorem zr2{a b c:Int}(h:a+b=c):a+0+b=c:=by rw[QW];exact h
theorem zr3(a b c:Int):a-(a-b)+c-b=c:=by rw[Yu,Kr,Wm]
theorem zr4(h:a+b+2<c):a+1+b<c:=Kh (Qq (Kd<|QQ a 1 b)<|Wo _) h
theorem zr6(h:a+30*(b+1)+300<c):a+3+30*b+300<c:=Kh (Kf (by rw[QQ];exact KH (by decide:3<=30)<|a+30*b) 300) h
theorem zr7{a b c:Int}(h:0<=a)(k:0<=b):0<=c-(c-b)+a:=by rw[Yu];exact Int.add_nonneg k h
theorem zr8(a b c d:Int):a+b+(c+d)=a+c+(b+d):=by rw[KS,Int.add_left_comm b,<-KS]
theorem zr9{a b:Int}(h:a>0):0<b+a-b:=by rw[Kr,Wm];exact h
theorem zr10(a b c:Int):a+b+c=a+(c+b*1):=by rw[Int.mul_one,KS,Kr b]
theorem zr11{a b c:Int}(h:0<=a)(k:¬a>0)(e:b+a=c):c=b:=by rw[<-e,Wd (Kz.mp k) h,QW]
theorem zr12(a b c:Int):a+b+(c+0)=a+c+b:=by rw[QW,Int.add_right_comm]
theorem zr13{a b c d:Int}(h:a+b=c):a+(d+0)+(b-d)=c:=by rw[QW];exact zr1 h
theorem zr14(a b c d:Int):a+b-(c+d)=a-c+(b-d):=by rw[<-Yd,WL,Ko,Ko,Ko,Ko];exact(Ub (· + -d) (by rw[KS,Kr b,<-KS]:a+(b+ -c)=a+ -c+b)).trans (KS _ _ _)
theorem zr15{a b c:Int}(h:a+b=c)(k:b=0):a=c:=by rw[<-h,k,QW]
theorem zmn{a b c d:Nat}(h:a+100<b)(k:c<=50):a+min c d<b:=Kh (KH (Qq (Nat.min_le_left _ _)<|Qq k (by decide)) _) h
theorem zmn2{a b c d:Nat}(h:a+100<b)(k:c<=50):a+min c d+2<b:=Kh (Kg (KH (Qq (Nat.min_le_left c d) k) a) (by decide:2<=50)) h
theorem zpr(h:a<b):b=b-1+1:=(Nat.sub_add_cancel<|Kh (QN _) h).symm
theorem zng{a n:Int}(h:¬0<=a):a+n<n:=by have:=Int.add_lt_add_right (Yp.mp h) n;rw[Wj] at this;exact this
theorem zi1{n:Nat}{k:Int}(h:n<=10000000)(b:k<n):k<2^63:=KL b<|QE (Kk.mpr h) (by decide)
theorem zi2{n:Nat}{k:Int}(h:n<=10000000)(b: -(n:Int)<=k): -(2^63)<=k:=QE (Int.neg_le_neg<|QE (Kk.mpr h) (by decide:((10000000:Nat):Int)<=2^63)) b
theorem zi3{n:Nat}(h:n<=1000000):(n:Int)<2^63:=Ye (Kk.mpr h)<|by decide
theorem zw1{a b c:Int}(h:a-b=c-1):a+1-b=c-0:=by rw[Kr,WL,h,Kr,Int.sub_add_cancel,Yi]
theorem zw2{a b c:Int}(h:a-b=c):a+0-b=c:=by rw[QW];exact h
theorem zw3{a b c:Int}(h:a-b=c-0):a-(b+1)=c-1:=by rw[<-Yd,h,Yi]
theorem zw4{a b c:Int}(h:a-b=c):a-(b+0)=c:=by rw[QW];exact h
theorem zw5{a b c:Int}(h:a-b=0-c):a+1-b=1-c:=by rw[Kr,WL,h,<-WL,QW]
theorem zw7{a b c:Int}(h:a-b=1-c):a-(b+1)=0-c:=by rw[<-Yd,h,Yd,Kr,<-Yd,YB]
theorem zrs(n:Int):(if 0<n then n-0 else 0)=(n.toNat:Int):=by
 by_cases h:0<n
 ·rw[Y8 h,Yi,Wz (WC h)]
 ·rw[Y7 h,Int.toNat_of_nonpos (Kz.mp h)];rfl
theorem zls{a b:Nat}(h:a+1=b):¬ (a:Int)<(b:Int)-1:=by rw[<-h];exact λq=>Int.lt_irrefl _<|KL q (Int.le_of_eq<|Wm (a:Int) 1)
set_option genCtorIdx false in
set_option genInjectivity true in
inductive KA where
 |n(i:Int)
 |t(s:String)
noncomputable abbrev KA.ctorIdx(x:KA):Nat:=KA.casesOn x (λo0=>0) (λo0=>1)
deriving instance DecidableEq for KA
theorem ofString_inj(h:Qb x=Qb y):x=y:=by
 rw[Str.ofString_eq_toList,Str.ofString_eq_toList] at h;have N:x.toList.map Char.toNat=y.toList.map Char.toNat:=by
  have:=Ub (λs:Jq=>s.cps.toList) h
  simpa using this
 have i:Function.Injective Char.toNat:=λa b e=>by
  have:a.val=b.val:=UInt32.toNat_inj.mp e;exact Char.ext this
 have p:x.toList=y.toList:=by
  have:∀ (l m:List Char),l.map Char.toNat=m.map Char.toNat->l=m:=by
   intro l
   induction l with
   |nil=>intro m e;induction m using List.casesOn with|nil=>rfl|cons=>cases e
   |cons a r W=>intro m e;induction m using List.casesOn with|nil=>cases e|cons b q=>simp only[Qw,List.cons.injEq] at e;rw[i e.1,W q e.2]
  exact this _ _ N
 exact String.toList_inj.mp p
noncomputable def kaIs:KA->Jf->Bool
 | .n i,v=>Value.isInt i v
 | .t s,v=>Value.isStrOf (Qb s) v
theorem fC(h:kaIs (.n i) v=Jc):∃t,v= .int i t:=Value.isInt_shape h
theorem fB(h:kaIs (.t s) v=Jc):∃t,v= .str (Qb s) t:=Value.isStrOf_shape h
theorem tS(i:Int)(t:Tok):kaIs (.n i) (.int i t)=Jc:=by simp[kaIs,Value.isInt]
theorem sC(s:String)(t:Tok):kaIs (.t s) (.str (Qb s) t)=Jc:=by simp[kaIs,Value.isStrOf]
def mk(prog:Jn)(w:Jm):KeyKind prog w KA where
 is:=kaIs
 hash:=λk=>match k with
  | .n i=>hashInt i
  | .t s=>hashStr w<|Qb s
 inj:=λv a b T R=>by
  induction a with
  |n i=>
   obtain⟨t,rfl⟩:=fC T
   induction b with
   |n j=>obtain⟨u,e⟩:=fC R;cases e;rfl
   |t s=>obtain⟨u,e⟩:=fB R;cases e
  |t s=>
   obtain⟨t,rfl⟩:=fB T
   induction b with
   |n j=>obtain⟨u,e⟩:=fC R;cases e
   |t G=>obtain⟨u,e⟩:=fB R;injection e with e;rw[ofString_inj e]
 byValue:=λk v h=>by
  induction k with
  |n i=>obtain⟨t,rfl⟩:=fC h;rfl
  |t s=>obtain⟨t,rfl⟩:=fB h;rfl
 pyHash:=λ{A E s k v Q} hv h=>by
  induction k with
  |n i=>obtain⟨t,rfl⟩:=fC hv;exact wpAny_pyHash_int h
  |t x=>obtain⟨t,rfl⟩:=fB hv;exact wpAny_pyHash_str h
 eqBool:=λ{A E s a b u v Q} p hv h=>by
  induction a with
  |n i=>
   obtain⟨t,rfl⟩:=fC p
   induction b with
   |n j=>
    obtain⟨g,rfl⟩:=fC hv;refine wpAny_eqBool_int ?_;have e:(i==j)=decide (KA.n i=KA.n j):=by rw[We];simp
    rw[e];exact h
   |t y=>obtain⟨g,rfl⟩:=fB hv;exact SeqAt.EqAt.int_str i t _ g prog w E Q<|by rw[Y5 (λe=>by cases e)] at h;exact h
  |t x=>
   obtain⟨t,rfl⟩:=fB p
   induction b with
   |n j=>obtain⟨g,rfl⟩:=fC hv;exact SeqAt.EqAt.str_int _ t j g prog w E Q<|by rw[Y5 (λe=>by cases e)] at h;exact h
   |t y=>
    obtain⟨g,rfl⟩:=fB hv;refine wpAny_eqBool_str ?_;have e:decide (Qb x=Qb y)=decide (KA.t x=KA.t y):=decide_eq_decide.mpr ⟨λe=>by rw[ofString_inj e],λe=>by cases e;rfl⟩;rw[e];exact h
 «strs»:=λk x t v h=>by
  induction k with
  |n i=>obtain⟨g,e⟩:=fC h;cases e
  |t s=>obtain⟨g,e⟩:=fB h;injection e with e;subst e;rcases v with⟨⟩<;>rfl
abbrev tk(prog:Jn)(w:Jm):HeapKind prog w (List KA):=tupleKind<|mk prog w
section
variable{prog:Jn}{w:Jm}{K:Type}[DecidableEq K]{knd:HeapKind prog w K}{A:Jj}{E:Jf->Je->Prop}{s:Je}
theorem hH{d a:Jg}{xs:List (K×Jg×Jf)}{Q:Jf->Je->Prop}(u:knd.room A)(h:knd.is s.heap k a)(m:s.heap.DictOfH knd d xs)
  (N:∀p,YV xs k=Ja p->Q p.2 {s with toks:=s.toks+knd.draws k})
  (Y:YV xs k=Jb->∀S,S.DictOfH knd d (xs++[(k,a,v)])->KR d s.heap S->Q v {s with heap:=S,toks:=s.toks+knd.draws k})
  (hsz:xs.length<=JJ):Jh (Jt prog w) A (dictSetDefault d (.ref a) v) Q E s:=by
 obtain⟨o,U,I,T,c,q,O,i,g⟩:=m;unfold dictSetDefault
 try with_reducible refine YJ ?_
 refine YG<|knd.pyHash u h ?_;refine YG<|wpAny_dictFind_heap (s:={s with toks:=s.toks+knd.draws k}) u h T q O i g ?_ ?_
 ·intro n;have t:k∉xs.map (·.1):=not_mem_keys_of_get n;refine YG (wpAny_rule (YG (wpAny_updateDictKeys (hz:=by have e:=J6 O;exact zle (Kd e) hsz) (s:={s with toks:=s.toks+knd.draws k}) T q (YH (Y (atKey_none_of_get n) _ ⟨_,_,I+1,Ki _ T (Obj.isFreed_of_dict (Obj.data_mapDictKeys q _)),
   c.mapDictKeys _,Obj.data_mapDictKeys q _,?_,?_,?_⟩ (KR.update ..))))))
  ·simp[O,JL]
  ·intro x hx
   rcases Qt.mp hx with hx|hx
   ·exact knd.keeps (i x hx) T q<|KR.update ..
   ·simp only[Qk] at hx;subst hx;exact knd.keeps h T q<|KR.update ..
  ·rw[QC,Qv];refine⟨g,by simp,?_⟩;intro x hx y W;simp only[Qw,WD,Qk] at W;subst W;exact λe=>t<|e▸hx
 ·intro j p H;refine YG<|wpAny_dictEntries (s:={s with toks:=s.toks+knd.draws k}) T q ?_;rw[entry_at O j,H];exact YG<|wpAny_rule (YH<|N p (atKey_of_get g H))
theorem jG{d a:Jg}{xs:List (K×Jg×Jf)}{Q:Jf->Je->Prop}(u:knd.room A.in1)(h:knd.is s.heap k a)(q:(d==JC)=Jd)(m:s.heap.DictOfH knd d xs)
  (N:∀p,YV xs k=Ja p->Q p.2 {s with toks:=s.toks+knd.draws k})
  (Y:YV xs k=Jb->∀S,S.DictOfH knd d (xs++[(k,a,v)])->KR d s.heap S->Q v {s with heap:=S,toks:=s.toks+knd.draws k})
  (hsz:xs.length<=JJ):Jh (Jt prog w) A (call (.builtin "dict.setdefault") [.ref d,.ref a,v]) Q E s:=by
 refine YM F.slot_dict_setdefault m.typeIs F.entry_dict_setdefault ?_<|F.args_dict_setdefault_3 _ _ _;unfold Builtin.«dict.setdefault»;refine YG ?_;unfold Builtin.Dict.keyAndDefault;refine YG<|wpAny_notOrdered_dict m.typeIs ?_;show Jh _ _ (pure (d,Value.ref a,Ja v)) _ _ s;refine YH ?_;refine wn (c:=(d==JC)=Jc) (by rw[q];exact QF) ?_;exact YG<|hH u h m (λp D=>YH ⟨_,rfl,N p D⟩) (λo S n H=>YH ⟨_,rfl,Y o S n H⟩) hsz
def RawD(h:Ji)(d:Jg)(es:Array JN)(ep:Nat):Prop:=∃o,h.get? d=Ja o/\o.ExactDict/\o.data= .dict es ep
theorem RawD.typeIs{d:Jg}(x:RawD s.heap d es ep):s.TypeIs (.ref d) "dict":=by obtain⟨o,h,c,o0⟩:=x;exact⟨o,h,c.1⟩
theorem RawD.at{h S:Ji}{d:Jg}(x:RawD h d es ep)(k:∀o,h.get? d=Ja o->S.get? d=Ja o):RawD S d es ep:=by obtain⟨o,T,r⟩:=x;exact⟨o,k o T,r⟩
theorem oF{d:Jg}{es:Array JN}{Q:Jf->Je->Prop}(v:(d==JC)=Jd)(m:RawD s.heap d es ep)
  (X:Q (.ref s.heap.objs.size) {s with heap:=s.heap.push {cls:= .type "dict_keyiterator",data:= .fields #[.ref d,.int 0 0,.int es.size 0,.int ep 0]}}):
  Jh (Jt prog w) A (YO<|.ref d) Q E s:=by
 obtain⟨o,a,c,h⟩:=id m;have T:s.TypeIs (.ref d) "dict":=m.typeIs;refine wpAny_pyIter_slot T F.slot_dict_iter<|YM F.slot_dict_iter T F.entry_dict_iter ?_ (F.args_dict_iter_1 _);unfold Builtin.«dict.__iter__»;refine YG ?_;unfold Builtin.Dict.dictSlotNone;refine YG<|wpAny_notOrdered_dict T ?_;show Jh _ _ (pure<|Value.ref d) _ _ s;refine YH ?_;show Jh _ _ (Builtin.Dict.showsAll d>>=_) _ _ s;unfold Builtin.Dict.showsAll;refine YG<|wn (by rw[v];exact QF) (YH ?_);refine YG<|wpAny_dictEntries a h ?_;refine YG<|wpAny_dictEpoch a h ?_;refine YG<|wpAny_newObj_type (YH ⟨_,rfl,"dict_keyiterator",_,⟨_,QL _ rfl,rfl⟩,F.slot_dict_keyiterator_next.lookup,?_⟩)
 simpa [Jx] using X
theorem kJ{t d:Jg}{es:Array JN}{Q:Option Jf->Je->Prop}(U:A.handled=Jb)(h:s.heap.IsKeyIter t d i es.size ep)(L:RawD s.heap d es ep)
  (q:∀e,es[i]? =Ja e->∀S,S.IsKeyIter t d (i+1) es.size ep->KR t s.heap S->Q (Ja e.key) {s with heap:=S})
  (p:es[i]? =Jb->∀S,Heap.ExtBut t s.heap S->Q Jb {s with heap:=S}):Jh (Jt prog w) A (pyNext<|.ref t) Q E s:=by
 obtain⟨o,x,C,v⟩:=id h;obtain⟨n,Y,W,I⟩:=id L;unfold pyNext;refine YG (wpAny_attempt (wpAny_callSpecial?_slot (name:=Qb "__next__") h.typeIs F.slot_dict_keyiterator_next
  (YM F.slot_dict_keyiterator_next h.typeIs F.entry_dict_keyiterator_next ?_ (F.args_dict_keyiterator_next_1 _))))
 refine YG<|YH ?_;refine YG ?_;refine YG ?_;refine YG<|wpAny_typeNameOfWhole_keyiter h.typeIs (YH ?_);refine YG<|wpAny_fieldsOf x v ?_;refine wn (c:=(Value.ref d==Value.none)=Jc) QF ?_;refine YG<|YH ?_;refine YG<|wpAny_dictEntries Y I ?_;refine wn (c:=((es.size:Int) !=es.size)=Jc) (by simp) ?_;refine YG<|YH ?_;refine YG<|wpAny_dictEpoch Y I ?_;refine wn (c:=((ep:Int) !=ep)=Jc) (by simp) ?_;refine YH ?_;by_cases N:i<es.size
 ·have u:(if(i:Int)<0 then Jb else es[(i:Int).toNat]?)=Ja es[i]:=(Y7<|Kz.mpr (QP i)).trans (KI N);dsimp only;rw[u];refine YG ?_;refine YG<|wpAny_typeNameOfWhole_keyiter h.typeIs (YH ?_);refine YG<|wpAny_isOneOf_keyiter h.typeIs ?_;show Jh _ _ (setField (.ref t) 1 (Jx<|(i:Int)+1)>>=_) _ _ s;refine YG<|wpAny_setField x v (by simp) ?_;have l:(s.heap.update t (Obj.mapFields (·.setIfInBounds 1 (Jx<|(i:Int)+1)))).IsKeyIter t d (i+1) es.size ep:=
   ⟨_,Ki _ x<|Obj.isFreed_of_fields (Obj.data_mapFields v _),(Obj.cls_mapFields ..).trans C,by rw[Obj.data_mapFields v];simp[Jx]⟩
  refine YG<|YJ ?_;refine YG (wpAny_isOneOf_keyiter (s:={s with heap:=s.heap.update t (Obj.mapFields (·.setIfInBounds 1 (Jx<|(i:Int)+1)))}) l.typeIs ?_);show Jh _ _ (pure es[i].key) _ _ _;exact YH<|YH ⟨_,rfl,YH<|q _ (KI N) _ l (KR.update ..)⟩
 ·have g:es.size<=i:=QT.mp N;have u:(if(i:Int)<0 then Jb else es[(i:Int).toNat]?)=Jb:=(Y7<|Kz.mpr (QP i)).trans (Yq g);dsimp only;rw[u];refine YG ?_;refine YG<|wpAny_typeNameOfWhole_keyiter h.typeIs (YH ?_);refine YG<|wpAny_setField (i:=0) x v (by simp) ?_;refine YG ?_;unfold newExc newTuple;refine YG<|wpAny_newObj_type ?_ (by size_fits);refine YG (m:=firstArgMember _ _)<|wpAny_of_eq (a:=Value.none) (by first|rfl|(simp only[firstArgMember];rfl)) ?_;refine JB ?_ (by size_fits);unfold raiseNew;refine YG<|wpAny_handled ?_;rw[show A.in1.handled=Jb from U];refine YG<|YH (wpAny_throw ?_);refine YG<|wpAny_isInstance (T:="StopIteration") (b:=Jc) ⟨_,QL _ rfl,rfl⟩ isSubtype_stop ?_;exact YH<|p (Yq g) _ (((KR.update ..).extBut.push _).push _)
theorem qJ(U:A.handled=Jb)(g d:Jg)(n:d≠g)(es:Array JN)(ep:Nat):
  Walks prog w A g [g,d] [g] es.size (λi v=>∃e,es[i]? =Ja e/\v=e.key) (λi h=>h.IsKeyIter g d i es.size ep/\RawD h d es ep) where
 sub:=λb R=>by simp at R;simp[R]
 frame:=λo0 o0 o0 t k=>⟨by obtain⟨o,T,r⟩:=t.1;exact⟨o,k g (by simp) o T,r⟩,t.2.at λo e=>k d (by simp) o e⟩
 item:=λi s Q E V t X=>kJ U t.1 t.2 (λe O S j H=>X _ S s.toks ⟨e,O,rfl⟩ ⟨j,t.2.at λo x=>H.extBut d o n x⟩ λb o R x=>H.extBut b o (λh=>R<|by simp[h]) x)
  (λq=>by exact sn<|(KI V).symm.trans q)
 done:=λs Q E t X=>kJ U t.1 t.2 (λe O=>by simp at O) λo0 S H=>X S s.toks λb o R x=>H b o (λh=>R<|by simp[h]) x
 self:=λo0 o0 o0 o0 t X=>by
  obtain⟨o,T,c,W⟩:=t.1;exact wpAny_pyIter_slot ⟨o,T,c⟩ F.slot_dict_keyiterator_iter<|YM F.slot_dict_keyiterator_iter ⟨o,T,c⟩ F.entry_dict_keyiterator_iter (YH ⟨_,rfl,_,_,⟨o,T,c⟩,F.slot_dict_keyiterator_next.lookup,X⟩) (F.args_dict_keyiterator_iter_1 _)
theorem uG{d:Jg}{es:Array JN}(l:(d==JC)=Jd):W.KdlSrc prog w "dict" d d es.size (λi v=>∃e,es[i]? =Ja e/\v=e.key) (λh=>RawD h d es ep) where
 type:=λo0 m=>m.typeIs
 there:=λo0 m=>by obtain⟨o,T,o0⟩:=m;exact⟨QS T,QS T⟩
 keep:=λo0 o0 m k=>m.at λo e=>k d (.inl rfl) o e
 notList:=by decide
 notTuple:=by decide
 hint:=λo0 o0 o0 o0 m q=>W.kdl_hint_dict m.typeIs q
 iter:=λo0 o0 U m=>⟨_,_,(λo0 o0 q=>oF l m q),qJ U _ d (by obtain⟨o,T,o0⟩:=m;exact WE<|QS T) es ep,⟨⟨_,QL _ rfl,rfl,rfl⟩,m.at λo e=>Qm _ e⟩⟩
end
section
open PySem.W
noncomputable abbrev bmE:List Jf:=[.type "ValueError",.type "Exception",.type "BaseException",.type "object"]
theorem nj(T:J0 h bmE bm)(self:Jf):refuseLoop self "__setattr__" bm=pure ():=by
 induction T with
 |base=>exact F.store_ValueError.passes self
 |own _ _ _ _ i=>rw[refuseLoop_ref];exact i
section
variable{prog:Jn}{w:Jm}{A:Jj}{E:Jf->Je->Prop}{h:Ji}{g:Array GenState}{d:Drawn}{t:Nat}{os:OsState}
variable{nm q:Jq}{C N x:Jg}{bs bm:List Jf}{sn:List Jq}{sub:List Jf}{ab:Bool}{col:Option Bool}{dd:Option Jg}{k0 k1 k2 k3 k5:Option Jf}{newId:String}
 {mA:Jq->Option Jf} {name:Jq} {v:Jf}
structure Stored(h h':Ji)(x C:Jg)(name:Jq)(v:Jf)(mA:Jq->Option Jf):Prop where
 inst:h'.Inst x C (λy=>if y=name then Ja v else mA y)
 keep:∀b o,b≠x->(∀o₀ dx,h.get? x=Ja o₀->o₀.dict=Ja dx->b≠dx)->h.get? b=Ja o->h'.get? b=Ja o
 obj:∀o₀,h.get? x=Ja o₀->∃o₁,A5 (h'.get? x=Ja o₁) (o₁.cls=o₀.cls) (o₁.data=o₀.data) (o₁.slots=o₀.slots) (∀dx,o₀.dict=Ja dx->o₁.dict=Ja dx)
 fresh:∀o₁ dx,h'.get? x=Ja o₁->o₁.dict=Ja dx->h.get? dx=Jb\/∃o₀,h.get? x=Ja o₀/\o₀.dict=Ja dx
theorem rF{id o nm:String}{self:Jf}{Q:Unit->Je->Prop}{E:Jf->Je->Prop}(k:builtinKind id=Ja .slot)(H:splitId id=Ja (o,nm))(T:argsOk id ⟨self::rest,[]⟩)
  (hi:Jh M A (isInstance self<|.type o) (λb s'=>b=Jc/\Q () s') E s):Jh M A (Y0 id ⟨self::rest,[]⟩) Q E s:=by
 simp only[Y0,k,H];refine YG (YI hi (λb s' h=> ?_) λo0 o0 h=>h);obtain⟨rfl,h⟩:=h;refine wn QF ?_
 induction i:Manifest.signature? id with
 |none=>exact YH h
 |some y=>
  simp only[argsOk,i] at T;exact wpAny_of_eq (a:=()) T h
theorem xc{tk:Tok}{Q:Fin->Je->Prop}{ns:List Jq}(T:J0 h bmE bm)
  (hC:h.get? C=Ja (JE nm q C N bs bm Jc sn sub ab col dd k0 k1 k2 k3 k5 newId))(L:Looks (Jt prog w) h (JY (.ref C) name) Jb)
  (I:h.Inst x C mA)(hq:∀S V,Stored h S x C name v mA->Q (.done<|.ret .none) ⟨S,g,d,V,os⟩)(hw:Within mA ns)(hsz:ns.length<=JJ):
  Jh (Jt prog w) A (Builtin.«object.__setattr__» ⟨[.ref x,.str name tk,v],[]⟩) Q E ⟨h,g,d,t,os⟩:=by
 obtain⟨o,hx,r,R,hd⟩:=I;have a:=nj T<|.ref x;unfold Builtin.«object.__setattr__»
 repeat (first|rw[refuse_eq]|(rw[refuseLoop_ref,a])|(with_reducible refine Jy hx ?_;rw[r])|with_reducible refine wpAny_mroOf_exc hC ?_|with_reducible refine L.at ?_|wp_step)
 rcases hd with⟨u,m⟩|⟨l,K,Z,ac⟩
 ·rw[u,Y7 (by simp[typeHasDict])]
  split
  ·rename_i P
   cases P
  split
  ·rename_i c P
   exact absurd P<|R c
  ·have j:(h.push {cls:= .type "dict",data:= .dict #[]}).get? x=Ja o:=Qm _ hx;have s:x≠h.objs.size:=WE<|QS hx;refine YG<|wpAny_alloc' ?_;refine YG<|wpAny_update' j ?_;refine YH ?_;have G:((h.push {cls:= .type "dict",data:= .dict #[]}).update x λo=>{cls:=o.cls,dict:=Ja h.objs.size,data:=o.data,slots:=o.slots}).get? h.objs.size
     =Ja {cls:= .type "dict",data:= .dict #[]}:=
    (WA _ _ _ _ s.symm).trans (Heap.get?_push_at rfl rfl)
   have ad:((h.push {cls:= .type "dict",data:= .dict #[]}).update x λo=>{cls:=o.cls,dict:=Ja h.objs.size,data:=o.data,slots:=o.slots}).Ns h.objs.size (λo0=>Jb):=
    ⟨_,#[],_,G,rfl,λe he=>absurd he<|by simp,λo0=>rfl⟩
   show Jh _ _ (Builtin.ObjectAttr.storeInDict h.objs.size (.str name tk) name v) _ _ _;unfold Builtin.ObjectAttr.storeInDict Builtin.ObjectAttr.newKeyGuard;refine YG<|YH (YG<|wpAny_nsSet1 (Heap.Ns1.of_empty ad) λS n H=> ?_);obtain⟨oD,J,O,M,z,D⟩:=n.count<|Within.cons name v Within.nil;refine YG<|wpAny_lookBehind M (by rw[z];exact pastItsLine_dict<|Qq D (by rw[KW,WJ,JU];decide)) ?_
   wp_walk
   have W:S.get? x=Ja {cls:=o.cls,dict:=Ja h.objs.size,data:=o.data,slots:=o.slots}:= ?_;refine hq S _ ⟨⟨{cls:=o.cls,dict:=Ja h.objs.size,data:=o.data,slots:=o.slots},W,r,R,.inr ⟨h.objs.size,rfl,s.symm,?_⟩⟩,(λb ob Y o0 B=> ?_),
    (λU k=>by obtain rfl:o=U:=Option.some.inj (hx.symm.trans k);exact⟨_,W,rfl,rfl,rfl,λl e=>by rw[u] at e;cases e⟩),λp l f F=>by rw[W] at f;cases f;cases F;exact .inl (Wb (Qz _))⟩
   ·obtain⟨o',es,ep,f,F,e3,eu,e4⟩:=n;exact⟨o',es,ep,f,F,e3,eu,λy=>by rw[e4 y];by_cases hy:y=name<;>simp[hy,m]⟩
   ·exact(H.2 b<|WE (QS B)).trans ((WA _ _ _ _ Y).trans (Qm _ B))
   ·refine(H.2 x s).trans (Ki _ j ?_);have X:=(Heap.get?_some_iff.mp hx).2;obtain⟨oc,od,i,ae⟩:=o
    rcases i with⟨⟩<;>first|rfl|exact X
 ·rw[K];refine YH ?_;show Jh _ _ (Builtin.ObjectAttr.storeInDict l (.str name tk) name v) _ _ _;unfold Builtin.ObjectAttr.storeInDict Builtin.ObjectAttr.newKeyGuard;refine YG<|YH (YG<|wpAny_nsSet1 ac λS n H=> ?_);obtain⟨oD,J,O,M,z,D⟩:=n.count<|Within.cons name v hw;refine YG (wpAny_lookBehind M (by rw[z];exact pastItsLine_dict<|Qq D (by rw[KW];exact KM hsz)) ?_)
  wp_walk
  refine hq S _ ⟨⟨o,(H.2 x Z.symm).trans hx,r,R,.inr ⟨l,K,Z,n⟩⟩,(λb ob o0 aa B=> ?_),
   (λU k=>⟨U,(H.2 x Z.symm).trans k,rfl,rfl,rfl,λo0 e=>e⟩),λp l f F=> .inr ⟨p,(H.2 x Z.symm).symm.trans f,F⟩⟩
  exact(H.2 b<|aa o l hx K).trans B
theorem xo{o:Jp}{Q:Unit->Je->Prop}(T:J0 h bmE bm)
  (i:h.get? C=Ja (JE nm q C N bs bm Jc sn sub ab col dd k0 k1 k2 k3 k5 newId))(hx:h.get? x=Ja o)(Z:o.cls= .ref C)(z:Q () ⟨h,g,d,t,os⟩):
  Jh M A (Y0 "object.__setattr__" ⟨[.ref x,n,v],[]⟩) Q E ⟨h,g,d,t,os⟩:=by
 have c:(Value.ref C::bm).contains (.type "object")=Jc:=by rw[KY,T.hasType F.store_ValueError.hasOwner,Bool.or_true]
 have a:=F.store_ValueError.args (.ref x) n v;have k:=F.store_ValueError.kind;have s:=F.store_ValueError.split;refine rF (id:="object.__setattr__") (self:= .ref x) (rest:=[n,v]) k s a ?_;unfold isInstance
 repeat (first|(with_reducible refine Jy hx ?_;rw[Z])|(with_reducible refine YU i ?_;rw[c])|wp_step)
 exact⟨rfl,z⟩
theorem qP{Q:Unit->Je->Prop}{ns:List Jq}(T:J0 h bmE bm)
  (M:h.get? C=Ja (JE nm q C N bs bm Jc sn sub ab col dd k0 k1 k2 k3 k5 newId))(L:Looks (Jt prog w) h (JY (.ref C) name) Jb)
  (s:Looks (Jt prog w) h (JY (.ref C) "__setattr__") (Ja<|.builtin "object.__setattr__"))(I:h.Inst x C mA)
  (z:∀W k,Stored h W x C name v mA->Q () ⟨W,g,d,k,os⟩)(H:Within mA ns)(hsz:ns.length<=JJ):
  Jh (Jt prog w) A (setAttr (.ref x) name v) Q E ⟨h,g,d,t,os⟩:=by
 obtain⟨o,hx,c,o0⟩:=id I;have f:=F.store_ValueError.slot.bind<|.ref x;unfold setAttr callSpecial? specialOf
 repeat (any_goals (first|assumption|(with_reducible refine Jy hx ?_;rw[c])|with_reducible refine s.at ?_|wp_step))
 refine codeAny_call_builtin F.store_ValueError.slot.plain F.store_ValueError.entry<|xo T M hx c ?_;refine xc T M L I (λW k S=> ?_) H hsz
 repeat (any_goals (first|assumption|wp_step))
 exact z W k S
end
end
noncomputable def evC{L:Type}(n:Nat)(c:Nat->Nat->Bool):PySem.W.KasT L->Option L
 | .ret a=>Ja a
 | .ask i j k=>cond (decide (i<n)&&decide (j<n)) (evC n c<|k (c i j)) Jb
noncomputable def lexLt(a b:Int×Int):Bool:=cond (a.1==b.1) (decide<|a.2<b.2)<|decide (a.1<b.1)
def srtO(ps:List (Int×Int)):Option (Array Nat):=evC ps.length (λi j=>lexLt (ps.getD i (0,0)) (ps.getD j (0,0))) (PySem.W.kas_sort ps.length)
def srtP(ps:List (Int×Int)):List (Int×Int):=cond (decide (ps.length<2)) ps (((srtO ps).getD #[]).toList.map λi=>ps.getD i (0,0))
noncomputable def chkO(n:Nat):Option (Array Nat)->Bool
 |some p=>p.toList.all λi=>decide<|i<n
 |none=>Jd
def chkP(ps:List (Int×Int)):Bool:=decide (ps.length<64)&&(decide (ps.length<2)||chkO ps.length (srtO ps))
theorem cps{G:Prop}(h:(G->False)->False):G:=Classical.byContradiction h
theorem bnx{P:Prop}(h:Jd=Jc):P:=by exact ft h
theorem onx{P:Prop}{L:Type}{x:L}(h:(Jb:Option L)=Ja x):P:=by exact ns h
set_option genCtorIdx false in
inductive PV where
 |none
 |bool(b:Bool)
 |int(i:Int)
 |str(s:String)
 |tup(l:List PV)
 |ref(a:Jg)
 |scr(l:List Int)
noncomputable abbrev PV.ctorIdx(x:PV):Nat:=PV.casesOn x 0 (λo0=>1) (λo0=>2) (λo0=>3) (λo0=>4) (λo0=>5) (λo0=>6)
set_option genCtorIdx false in
inductive PO where
 |list(l:List PV)
 |dict(ks:List (List KA))(l:List PV)
 |fd(c:String)(fs:List PV)
 |inst(d:Jg)
noncomputable abbrev PO.ctorIdx(x:PO):Nat:=PO.casesOn x (λo0=>0) (λo0 o0=>1) (λo0 o0=>2) (λo0=>3)
noncomputable def PO.fixed:PO->Bool
 | .fd .. | .inst _=>Jc
 |_=>Jd
abbrev PH:=Jg->Option PO
noncomputable def PH.set(σ:PH)(a:Jg)(o:PO):PH:=λb=>if b=a then Ja o else σ b
theorem PH.set_same(σ:PH)(a:Jg)(o:PO):(σ.set a o) a=Ja o:=Y8 rfl
theorem PH.set_ne(σ:PH)(o:PO)(h:b≠a):(σ.set a o) b=σ b:=Y7 h
abbrev Rho:=List<|String×Option PV
noncomputable def Rho.get:Rho->String->Option PV
 |[],_=>Option.none
 |(y,v)::r,x=>if y=x then v else Rho.get r x
noncomputable def Rho.put:Rho->String->PV->Rho
 |[],_,_=>[]
 |(y,o)::r,x,v=>if y=x then(y,Ja v)::r else(y,o)::Rho.put r x v
theorem Rho.get_c(y:String)(v:Option PV)(r:Rho)(x:String):Rho.get ((y,v)::r) x=if y=x then v else Rho.get r x:=rfl
theorem Rho.put_c(y:String)(o:Option PV)(r:Rho)(x:String)(v:PV):Rho.put ((y,o)::r) x v=if y=x then(y,Ja v)::r else(y,o)::Rho.put r x v:=rfl
noncomputable def Rho.puts:Rho->List String->List PV->Rho
 |ρ,x::s,v::w=>Rho.puts (ρ.put x v) s w
 |ρ,_,_=>ρ
set_option genCtorIdx false in
inductive BOp where
 |add|sub|mul|fdiv|mod|pow(u:Unit)
set_option genCtorIdx false in
inductive COp where
 |eq|ne|lt|le|gt(u:Unit)|ge|in_|nin
set_option genCtorIdx false in
inductive BI where
 |len|all|sum|int|list|min|sorted|dict(u:Unit)|max|min2|sortp
inductive Me where
 |append
inductive IK where
 |val|range
set_option genCtorIdx false in
inductive Tg where
 |name(x:String)
 |tup(l:List String)
noncomputable abbrev Tg.ctorIdx(x:Tg):Nat:=Tg.casesOn x (λo0=>0) (λo0=>1)
set_option genCtorIdx false
inductive E where
 |none
 |bool(b:Bool)
 |int(i:Int)
 |str(s:String)
 |loc(x:String)
 |glob(x:String)
 |bin(op:BOp)(a b:E)
 |not_(a:E)
 |and_(a b:E)
 |or_(a b:E)
 |isNone(a:E)
 |notNone(a:E)
 |cmp(op:COp)(a b:E)
 |cmp2(a:E)(o1:COp)(b:E)(o2:COp)(c:E)
 |tup(l:List E)
 |list(l:List E)
 |sub(a i:E)
 |upto(a hi:E)
 |from_(a lo:E)
 |comp(elt:E)(tg:Tg)(k:IK)(it:List E)
 |compIf(elt:E)(tg:Tg)(k:IK)(it:List E)(cond:E)
 |call(f:String)(args:List E)
 |bi(b:BI)(args:List E)
 |isi(a:E)(ts:List String)
 |meth(o:E)(m:Me)(args:List E)
 |dict0
 |get(a k:E)
 |sd(a k:E)
 |attr(x f:String)
 |mcall(f:String)(o:E)(args:List E)
 |lr(a:E)
inductive S where
 |assign(tg:Tg)(e:E)
 |setIdx(o i e:E)
 |expr(e:E)
 |ret(e:E)
 |if_(t:E)(b o:List S)
 |for_(tg:Tg)(k:IK)(it:List E)(b:List S)
 |while_(t:E)(b:List S)
 |raise(c:String)(args:List E)
 |try1(b:List S)(c:String)(h:List S)
set_option genCtorIdx true
set_option genCtorIdx false in
inductive Fl where
 |next
 |ret(v:PV)
structure PX where
 c:String
 fs:List PV
abbrev Post:=PV->PH->Prop
abbrev XPost:=PX->PH->Prop
abbrev Cl:=String->List PV->PH->Post->XPost->Prop
structure Gx where
 glob:String->Option PV
 sub:String->String->Bool
 full:Bool
 fn:String->Bool
 calm:Bool
 cs:List String
 mks:List String
 inis:List String
 flds:String->List String
noncomputable def stat(s:List String):Bool:=s.length==1&&s.all λt=>["int","bool","list","tuple","dict"].contains t
noncomputable def Gx.un(G:Gx):Gx:={G with calm:=Jd}
noncomputable def lim:Nat:=1000000
def wnew(o:PO)(σ:PH)(Q:Post):Prop:=∀a,σ a=Jb->Q (.ref a) (σ.set a o)
noncomputable def kaOf:PV->Option KA
 | .int i=>Ja<|.n i
 | .str s=>Ja<|.t s
 |_=>Jb
noncomputable def kasOf:List PV->Option (List KA)
 |[]=>Ja []
 |p::r=>(kaOf p).bind λk=>(kasOf r).map (k:: ·)
def keyOf:PV->Option (List KA)
 | .tup l=>kasOf l
 |_=>Jb
noncomputable def KA.pv:KA->PV
 | .n i=> .int i
 | .t s=> .str s
def keyPV(k:List KA):PV:= .tup (k.map KA.pv)
noncomputable def kidx:List (List KA)->List KA->Option Nat
 |[],_=>Jb
 |k::r,x=>if k=x then Ja 0 else(kidx r x).map (· +1)
def klook(ks:List (List KA))(l:List PV)(k:List KA):Option PV:=(kidx ks k).bind λj=>l[j]?
def kset(ks:List (List KA))(l:List PV)(k:List KA)(v:PV):PO:=match kidx ks k with
 |some j=> .dict ks (l.set j v)
 |none=> .dict (ks++[k]) (l++[v])
def Okl(l:List PV):Prop:=l.length<=lim
def wlist(l:List PV)(σ:PH)(Q:Post):Prop:=Okl l/\wnew (.list l) σ Q
mutual
noncomputable def Rd(σ:PH):YQ->PV->Prop
 | .none,v=>v= .none
 | .bool b,v=>v= .bool b
 | .int i,v=>v= .int i
 | .str x,v=>∃s,v= .str s/\x=Qb s
 | .tuple ds,v=>∃l,v= .tup l/\Rds σ ds l
 | .list ds,v=>X2 λa l=>A3 (v= .ref a) (σ a=Ja (.list l))<|Rds σ ds l
 | .dict _,_=>False
noncomputable def Rds(σ:PH):List YQ->List PV->Prop
 |[],l=>l=[]
 |d::ds,l=>X2 λp ps=>A3 (l=p::ps) (Rd σ d p)<|Rds σ ds ps
end
def okD(d:YQ):Prop:=d.canLay0=Jc/\d.depth<=50
inductive Wit{α β:Type}(f:α->β)(v:β)(K:α->Prop):Prop
 |mk (x:α) (e:v=f x) (k:K x):Wit f v K
inductive WitL(σ:PH)(K:List PV->Prop)(v:PV):Prop
 |mk (a:Jg) (l:List PV) (e:v= .ref a) (s:σ a=Ja (.list l)) (k:K l):WitL σ K v
noncomputable def onInt(K:Int->Prop):PV->Prop
 | .int x=>K x
 |_=>False
noncomputable def onO(K:List PV->Prop):Option PO->Prop
 |some (.list l)=>K l
 |_=>False
def onL(σ:PH)(K:List PV->Prop):PV->Prop
 | .ref a=>onO K<|σ a
 |_=>False
noncomputable def onDO(K:List (List KA)->List PV->Prop):Option PO->Prop
 |some (.dict k l)=>K k l
 |_=>False
def onD(σ:PH)(K:List (List KA)->List PV->Prop):PV->Prop
 | .ref a=>onDO K<|σ a
 |_=>False
noncomputable def oK(K:List KA->Prop):Option (List KA)->Prop
 |some k=>K k
 |none=>False
theorem hU{K:List KA->Prop}(h:oK K o):Wit Ja o K:=by
 induction o with
 |none=>exact h.elim
 |some v=>exact⟨v,rfl,h⟩
inductive WitD(σ:PH)(K:List (List KA)->List PV->Prop)(v:PV):Prop
 |mk (a:Jg) (ks:List (List KA)) (l:List PV) (e:v= .ref a) (s:σ a=Ja (.dict ks l)) (k:K ks l):WitD σ K v
theorem kC{K:List (List KA)->List PV->Prop}(h:onDO K v):∃ks l,v=Ja (.dict ks l)/\K ks l:=by
 induction v with
 |none=>exact h.elim
 |some o=>induction o with
  |dict ks l=>exact⟨ks,l,rfl,h⟩
  |_=>exact h.elim
theorem gY{K:List (List KA)->List PV->Prop}(h:onD σ K v):WitD σ K v:=by
 induction v using PV.casesOn with
 |ref a=>obtain⟨k,l,e,h⟩:=kC (show onDO K (σ a) from h);exact⟨a,k,l,rfl,e,h⟩
 |_=>exact h.elim
theorem cf{K:Int->Prop}(h:onInt K v):Wit PV.int v K:=by
 induction v using PV.casesOn with
 |int x=>exact⟨x,rfl,h⟩
 |_=>exact h.elim
theorem g9{K:List PV->Prop}(h:onO K v):∃l,v=Ja (.list l)/\K l:=by
 induction v with
 |none=>exact h.elim
 |some o=>induction o with
  |list l=>exact⟨l,rfl,h⟩
  |_=>exact h.elim
theorem gP{K:List PV->Prop}(h:onL σ K v):WitL σ K v:=by
 induction v using PV.casesOn with
 |ref a=>obtain⟨l,e,h⟩:=g9 (show onO K (σ a) from h);exact⟨a,l,rfl,e,h⟩
 |_=>exact h.elim
theorem jy{K:List PV->Prop}(e:σ a=Ja (.list l)):onL σ K (.ref a)=K l:=by
 show onO K (σ a)=K l;rw[e];rfl
def src(k:IK)(vs:List PV)(σ:PH)(K:List PV->(PH->Prop)->Prop):Prop:=
 match k with
 | .val=>match vs with
  |[.tup l]=>K l λo0=>True
  |[.ref a]=>onL σ (λl=>K l λT=>T a=Ja (.list l))<|.ref a
  |_=>False
 | .range=>match vs with
  |[v]=>onInt (λn=> -1000000<n/\K ((Qc n.toNat).map λ(i:Nat)=> .int i) λo0=>True) v
  |_=>False
noncomputable def bindT:Tg->PV->Rho->Option Rho
 | .name x,v,ρ=>Ja<|ρ.put x v
 | .tup s,.tup w,ρ=>if w.length=s.length then Ja (ρ.puts s w) else Jb
 |_,_,_=>Jb
noncomputable def Tg.isT:Tg->Bool
 | .name _=>Jd
 | .tup _=>Jc
noncomputable def Tg.names:Tg->List String
 | .name x=>[x]
 | .tup s=>s
noncomputable def blank(tg:Tg)(ρ:Rho):Rho:=(".0",Jb)::((tg.names.map λx=>(x,Jb))++ρ)
def bindC(tg:Tg)(v:PV)(ρ:Rho):Option Rho:=bindT tg v<|blank tg ρ
noncomputable def lenO:Option PO->Option Nat
 |some (.list l)=>Ja l.length
 |_=>Jb
theorem rG(h:lenO o=Ja k):∃l,o=Ja (.list l)/\l.length=k:=by
 rcases o with o0|o
 ·exact ns h
 ·induction o with
  |list l=>exact⟨l,rfl,sj h⟩
  |_=>exact ns h
def plen(σ:PH):PV->Option Nat
 | .ref a=>lenO<|σ a
 | .tup l=>Ja l.length
 | .scr l=>Ja l.length
 |_=>Jb
noncomputable def place(n:Nat)(i:Int):Option Nat:=
 if 0<=i then(if i<n then Ja i.toNat else Jb) else(if 0<=i+n then Ja (i+n).toNat else Jb)
noncomputable def cut(n:Nat)(i:Int):Nat:=if 0<=i then min i.toNat n else(i+n).toNat
def psubL(l:List PV):PV->Option PV
 | .int k=>(place l.length k).bind λj=>l[j]?
 |_=>Jb
def psubO(i:PV):Option PO->Option PV
 |some (.list l)=>psubL l i
 |_=>Jb
def psub(σ:PH):PV->PV->Option PV
 | .ref a,i=>psubO i<|σ a
 | .tup l,.int k=>(place l.length k).bind λj=>l[j]?
 | .scr l,.int k=>((place l.length k).bind λj=>l[j]?).map .int
 |_,_=>Jb
noncomputable def cL:List PV->Option (List Int)
 |[]=>Ja []
 | .int i::r=>(cL r).map (i:: ·)
 |_=>Jb
noncomputable def eU:List PV->Option (List Bool)
 |[]=>Ja []
 | .bool i::r=>(eU r).map (i:: ·)
 |_=>Jb
def wadd(a b:PV)(σ:PH)(Q:Post):Prop:=
 match a with
 | .int x=>onInt (λy=>Q (.int (x+y)) σ) b
 | .ref x=>onL σ (λl=>onL σ (λm=>wlist (l++m) σ Q) b) (.ref x)
 |_=>False
def wbin(o:BOp)(a b:PV)(σ:PH)(Q:Post):Prop:=
 match o with
 | .add=>wadd a b σ Q
 | .sub=>onInt (λx=>onInt (λy=>Q (.int (x-y)) σ) b) a
 | .mul=>onInt (λx=>onInt (λy=>(x.natAbs<2^64\/y.natAbs<2^64)/\Q (.int (x*y)) σ) b) a
 | .fdiv=>onInt (λx=>onInt (λy=>y≠0/\y.natAbs<1073741824/\Q (.int (x.fdiv y)) σ) b) a
 | .mod=>onInt (λx=>onInt (λy=>y≠0/\Q (.int (x.fmod y)) σ) b) a
 | .pow _=>onInt (λx=>onInt (λy=>0<=y/\y<=1000/\x.natAbs<2^64/\Q (.int (x^y.toNat)) σ) b) a
def weq(a b:PV)(σ:PH)(Q:Bool->PH->Prop):Prop:=X2 λc d=>A5 (Rd σ c a) (Rd σ d b) (okD c) (okD d)<|Q (PyData.eqv c d) σ
def win(a b:PV)(σ:PH)(Q:Bool->PH->Prop):Prop:=onD σ (λi o0=>oK (λk=>Q (kidx i k).isSome σ) (keyOf a)) b\/onL σ (λl=>X2 λc s=>A5 (Rd σ c a) (Rds σ s l) (okD c) ((∀d∈s,okD d)) (Q (s.any λd=>PyData.eqv d c) σ)) b
def wrel(f:Int->Int->Bool)(a b:PV)(σ:PH)(Q:Bool->PH->Prop):Prop:=onInt (λx=>onInt (λy=>Q (f x y) σ) b) a
def wcmp(o:COp)(a b:PV)(σ:PH)(Q:Bool->PH->Prop):Prop:=
 match o with
 | .eq=>weq a b σ Q
 | .ne=>weq a b σ λr σ=>Q (!r) σ
 | .in_=>win a b σ Q
 | .nin=>win a b σ λr σ=>Q (!r) σ
 | .lt=>wrel (λx y=>decide (x<y)) a b σ Q
 | .le=>wrel (λx y=>decide (x<=y)) a b σ Q
 | .gt _=>wrel (λx y=>decide (x>y)) a b σ Q
 | .ge=>wrel (λx y=>decide (x>=y)) a b σ Q
noncomputable def on1(K:PV->Prop):List PV->Prop
 |[v]=>K v
 |_=>False
theorem vI{K:PV->Prop}(h:on1 K l):∃v,l=[v]/\K v:=by
 match l,h with
 |[v],h=>exact⟨v,rfl,h⟩
noncomputable def oBs(K:List Bool->Prop):Option (List Bool)->Prop
 |some bs=>K bs
 |none=>False
noncomputable def oIs(K:List Int->Prop):Option (List Int)->Prop
 |some is=>K is
 |none=>False
theorem pV{K:List Bool->Prop}(h:oBs K o):Wit Ja o K:=by
 induction o with
 |none=>exact h.elim
 |some bs=>exact⟨bs,rfl,h⟩
theorem iu{K:List Int->Prop}(h:oIs K o):Wit Ja o K:=by
 induction o with
 |none=>exact h.elim
 |some bs=>exact⟨bs,rfl,h⟩
noncomputable def oNat(K:Nat->Prop):Option Nat->Prop
 |some n=>K n
 |none=>False
theorem gA{K:Nat->Prop}(h:oNat K o):Wit Ja o K:=by
 induction o with
 |none=>exact h.elim
 |some n=>exact⟨n,rfl,h⟩
noncomputable def cy(K:Bool->Prop):PV->Prop
 | .bool x=>K x
 |_=>False
theorem j7{K:Bool->Prop}(h:cy K v):Wit PV.bool v K:=by
 induction v using PV.casesOn with
 |bool x=>exact⟨x,rfl,h⟩
 |_=>exact h.elim
def onS(σ:PH)(K:List PV->Prop):PV->Prop
 | .tup l=>K l
 | .ref a=>onO K<|σ a
 |_=>False
theorem vX{K:List PV->Prop}(h:onS σ K v):(∃l,v= .tup l/\K l)\/X2 λa l=>A3 (v= .ref a) (σ a=Ja (.list l)) (K l):=by
 induction v using PV.casesOn with
 |tup l=>exact .inl ⟨l,rfl,h⟩
 |ref a=>obtain⟨l,e,h⟩:=g9 (show onO K (σ a) from h);exact .inr ⟨a,l,rfl,e,h⟩
 |_=>exact h.elim
noncomputable def lmin:List Int->Int
 |[]=>0
 |x::r=>r.foldl min x
noncomputable def lmax:List Int->Int
 |[]=>0
 |x::r=>r.foldl max x
noncomputable def on2(K:PV->PV->Prop):List PV->Prop
 |[a,b]=>K a b
 |_=>False
theorem uM{K:PV->PV->Prop}(h:on2 K l):X2 λa b=>l=[a,b]/\K a b:=by
 rcases l with o0|⟨a,o0|⟨b,o0|⟨o0,o0⟩⟩⟩<;>first|exact h.elim|exact⟨a,b,rfl,h⟩
noncomputable def prOf:PV->Option (Int×Int)
 | .tup [.int a,.int b]=>Ja (a,b)
 |_=>Jb
noncomputable def ig:List PV->Option (List (Int×Int))
 |[]=>Ja []
 |p::r=>(prOf p).bind λx=>(ig r).map (x:: ·)
noncomputable def oPs(K:List (Int×Int)->Prop):Option (List (Int×Int))->Prop
 |some l=>K l
 |none=>False
theorem pX{K:List (Int×Int)->Prop}(h:oPs K o):Wit Ja o K:=by
 induction o with
 |none=>exact h.elim
 |some v=>exact⟨v,rfl,h⟩
noncomputable def prPV(p:Int×Int):PV:= .tup [.int p.1,.int p.2]
def wMin(σ:PH)(Q:Post)(args:List PV):Prop:=on1 (onL σ λl=>oIs (λis=>is≠ []/\Q (.int (lmin is)) σ) (cL l)) args
noncomputable def df:List KA->Bool
 |[.n i,.n j]=>decide (0<=i/\i<8)&&decide (0<=j/\j<8)
 |_=>Jd
theorem iz(h:df k=Jc):X2 λa b=>A3 (k=[.n ((a:Nat):Int),.n ((b:Nat):Int)]) (a<8) (b<8):=by
 rcases k with o0|⟨i,o0|⟨j,o0|⟨o0,o0⟩⟩⟩
 ·exact ft h
 ·rcases i with⟨⟩<;>exact ft h
 ·rcases i with i|o0
  ·rcases j with j|o0
   ·obtain⟨N,p⟩:=Qg.mp h;have N:=Y6 N;have p:=Y6 p;exact⟨i.toNat,j.toNat,by rw[Wz N.1,Wz p.1],(WF N.1).mpr N.2,(WF p.1).mpr p.2⟩
   ·exact ft h
  ·exact ft h
 ·rcases i with⟨⟩<;>first|exact ft h|(rcases j with⟨⟩<;>exact ft h)
def wbi(b:BI)(args:List PV)(σ:PH)(Q:Post):Prop:=
 match b with
 | .len=>on1 (λv=>oNat (λn=>n<=lim/\Q (.int n) σ) (plen σ v)) args
 | .all=>on1 (onL σ λl=>oBs (λbs=>Q (.bool (bs.all id)) σ) (eU l)) args
 | .sum=>on1 (onL σ λl=>oIs (λis=>Q (.int is.sum) σ) (cL l)) args
 | .int=>on1 (cy λx=>Q (.int (if x then 1 else 0)) σ) args
 | .list=>on1 (λv=>onD σ (λks o0=>wlist (ks.map keyPV) σ Q) v\/onS σ (λl=>wlist l σ Q) v) args
 | .min=>wMin σ Q args
 | .sorted=>on1 (onL σ λl=>oIs (λis=>is.length<64/\∀js:List Int,js.Perm is->js.Pairwise (· <= ·)->wlist (js.map .int) σ Q) (cL l)) args
 | .dict _=>on1 (onD σ λks l=>(ks≠ []/\ks.length<=lim/\∀k∈ks,df k=Jc)/\wnew (.dict ks l) σ Q) args
 | .max=>on1 (onL σ λl=>oIs (λis=>is≠ []/\Q (.int (lmax is)) σ) (cL l)) args
 | .min2=>on2 (λa b=>onInt (λx=>onInt (λy=>Q (.int (min x y)) σ) b) a) args
 | .sortp=>on1 (onL σ λl=>oPs (λps=>chkP ps=Jc/\wlist ((srtP ps).map prPV) σ Q) (ig l)) args
noncomputable def isiO(G:Gx)(t:List String):Option PO->Option Bool
 |some (.list _)=>Ja<|t.contains "list"
 |_=>Jb
def isiV(G:Gx)(σ:PH)(v:PV)(t:List String):Option Bool:=
 match v with
 | .none=>Ja Jd
 | .str _=>Ja Jd
 | .bool _=>Ja (t.contains "bool"||t.contains "int")
 | .int _=>Ja<|t.contains "int"
 | .tup _=>Ja<|t.contains "tuple"
 | .ref a=>isiO G t<|σ a
 |_=>Jb
def wmeth(m:Me)(o:PV)(args:List PV)(σ:PH)(Q:Post):Prop:=
 match o with
 | .ref a=>onO (λl=>match m,args with
  | .append,[v]=>l.length<lim/\Q .none (σ.set a<|.list (l++[v]))
  |_,_=>False) (σ a)
 |_=>False
def recv(m:Me)(σ:PH)(v:PV):Prop:=
 match m with
 |_=>onL σ (λo0=>True) v
noncomputable def oR(K:Rho->Prop):Option Rho->Prop
 |some v=>K v
 |none=>False
theorem om{K:Rho->Prop}(h:oR K o):Wit Ja o K:=by
 induction o with
 |none=>exact h.elim
 |some v=>exact⟨v,rfl,h⟩
noncomputable def fG(chk:PH->Prop)(tg:Tg)(ρ:Rho)(tst:Rho->PH->(Bool->PH->Prop)->Prop)(el:Rho->PH->Post->Prop):List PV->List PV->PH->(List PV->PH->Prop)->Prop
 |[],a,σ,K=>chk σ/\K a σ
 |x::s,a,σ,K=>chk σ/\oR (λh=>tst h σ λb m=>if b then el h m λv O=>fG chk tg ρ tst el s (a++[v]) O K else fG chk tg ρ tst el s a m K) (bindC tg x ρ)
noncomputable def oV(K:PV->Prop):Option PV->Prop
 |some v=>K v
 |none=>False
theorem i9{K:PV->Prop}(h:oV K o):Wit Ja o K:=by
 induction o with
 |none=>exact h.elim
 |some v=>exact⟨v,rfl,h⟩
noncomputable def oB(K:Bool->Prop):Option Bool->Prop
 |some v=>K v
 |none=>False
theorem sH{K:Bool->Prop}(h:oB K o):Wit Ja o K:=by
 induction o with
 |none=>exact h.elim
 |some v=>exact⟨v,rfl,h⟩
noncomputable def PV.isNone:PV->Bool
 | .none=>Jc
 |_=>Jd
def nX(f:List PV->List PV)(ok:Nat->Prop)(v:PV)(σ:PH)(Q:Post):Prop:=
 match v with
 | .ref a=>onO (λl=>Okl l/\wnew (.list (f l)) σ Q) (σ a)
 |_=>False
def wget(o:Option PV)(σ:PH)(Q:Post):Prop:=match o with
 |some v=>Q v σ
 |none=>wnew (.list []) σ Q
def wsd(A:PV)(σ:PH)(Q:Post)(I:PV):Prop:=match A with
 | .ref a=>onDO (λs l=>l.length<lim/\oK (λk=>match klook s l k with
  |some v=>Q v σ
  |none=>∀b,σ b=Jb->Q (.ref b) ((σ.set b (.list [])).set a (.dict (s++[k]) (l++[.ref b])))) (keyOf I)) (σ a)
 |_=>False
noncomputable def pfd(G:Gx)(f:String):Option PO->Option PV
 |some (.fd c s)=>((G.flds c).idxOf? f).bind λj=>s[j]?
 |_=>Jb
def pfld(G:Gx)(σ:PH)(f:String):Option PO->Option PV
 |some (.inst d)=>pfd G f<|σ d
 |_=>Jb
def pattr(G:Gx)(σ:PH)(f:String):PV->Option PV
 | .ref a=>pfld G σ f<|σ a
 |_=>Jb
noncomputable def onIO:Option PO->Prop
 |some (.inst _)=>True
 |_=>False
def onI(σ:PH):PV->Prop
 | .ref a=>onIO<|σ a
 |_=>False
theorem uH(h:onI σ v):∃a d,v= .ref a/\σ a=Ja (.inst d):=by
 induction v using PV.casesOn with
 |ref a=>
  replace h:onIO (σ a):=h
  induction e:σ a with
  |none=>rw[e] at h;exact h.elim
  |some o=>induction o with
   |inst d=>exact⟨a,d,rfl,e⟩
   |_=>rw[e] at h;exact h.elim
 |_=>exact h.elim
def wlr(σ:PH)(Q:Post)(n:Int):Prop:=(0<=n/\n<=1000)/\wlist ((Qc n.toNat).map λ(i:Nat)=> .int i) σ Q
mutual
noncomputable def we(G:Gx)(cl:Cl):E->Rho->PH->Post->XPost->Prop
 | .none,_,σ,Q,_=>Q .none σ
 | .bool b,_,σ,Q,_=>Q (.bool b) σ
 | .int i,_,σ,Q,_=>Q (.int i) σ
 | .str s,_,σ,Q,_=>Q (.str s) σ
 | .loc x,ρ,σ,Q,_=>oV (λv=>Q v σ) (ρ.get x)
 | .glob x,_,σ,Q,_=>oV (λv=>Q v σ) (G.glob x)
 | .bin p a b,ρ,σ,Q,X=>we G cl a ρ σ (λA σ1=>we G cl b ρ σ1 (λq O=>wbin p A q O Q) X) X
 | .not_ a,ρ,σ,Q,X=>we G cl a ρ σ (λv σ1=>cy (λb=>Q (.bool !b) σ1) v) X
 | .and_ a b,ρ,σ,Q,X=>we G cl a ρ σ (λv σ1=>cy (λb'=>if b' then we G cl b ρ σ1 Q X else Q (.bool Jd) σ1) v) X
 | .or_ a b,ρ,σ,Q,X=>we G cl a ρ σ (λv σ1=>cy (λb'=>if b' then Q (.bool Jc) σ1 else we G cl b ρ σ1 Q X) v) X
 | .isNone a,ρ,σ,Q,X=>we G cl a ρ σ (λv σ1=>Q (.bool v.isNone) σ1) X
 | .notNone a,ρ,σ,Q,X=>we G cl a ρ σ (λv σ1=>Q (.bool !v.isNone) σ1) X
 | .cmp p a b,ρ,σ,Q,X=>we G cl a ρ σ (λA σ1=>we G cl b ρ σ1 (λq O=>wcmp p A q O λr σ3=>Q (.bool r) σ3) X) X
 | .cmp2 a h b D c,ρ,σ,Q,X=>we G cl a ρ σ (λA σ1=>we G cl b ρ σ1 (λq O=>wcmp h A q O λr σ3=>
   if r then we G cl c ρ σ3 (λw N=>wcmp D q w N λr P=>Q (.bool r) P) X else Q (.bool Jd) σ3) X) X
 | .tup l,ρ,σ,Q,X=>wes G cl l ρ σ (λvs σ1=>Q (.tup vs) σ1) X
 | .list l,ρ,σ,Q,X=>wes G cl l ρ σ (λvs σ1=>wnew (.list vs) σ1 Q) X
 | .sub a i,ρ,σ,Q,X=>we G cl a ρ σ (λA σ1=>we G cl i ρ σ1 (λC O=>onD O (λks l=>oK (λk=>oV (λv=>Q v O) (klook ks l k)) (keyOf C)) A\/oNat (λk=>k<=lim/\oV (λv=>Q v O) (psub O A C)) (plen O A)) X) X
 | .upto a hi,ρ,σ,Q,X=>we G cl a ρ σ (λA σ1=>we G cl hi ρ σ1 (λC O=>onInt (λk=>nX (λl=>l.take (cut l.length k)) (λn=>0<=k/\k<n) A O Q) C) X) X
 | .from_ a V,ρ,σ,Q,X=>we G cl a ρ σ (λA σ1=>we G cl V ρ σ1 (λC O=>onInt (λk=>nX (λl=>l.drop (cut l.length k)) (λn=>1<=k/\k<=n) A O Q) C) X) X
 | .comp t tg k g,ρ,σ,Q,X=>G.calm=Jc/\wes G cl g ρ σ (λvs σ1=>src k vs σ1 λxs chk=>xs.length<=lim/\fG chk tg ρ (λo0 σ K=>K Jc σ) (λρ' σ K=>we G cl t ρ' σ K λo0 o0=>False) xs [] σ1 λB O=>wnew (.list B) O Q) X
 | .compIf t tg k g d,ρ,σ,Q,X=>G.calm=Jc/\wes G cl g ρ σ (λvs σ1=>src k vs σ1 λxs chk=>xs.length<=lim/\fG chk tg ρ (λρ' σ K=>we G cl d ρ' σ (λv σ'=>cy (λb=>K b σ') v) λo0 o0=>False) (λρ' σ K=>we G cl t ρ' σ K λo0 o0=>False) xs [] σ1 λB O=>wnew (.list B) O Q) X
 | .call f args,ρ,σ,Q,X=>G.fn f=Jc/\wes G cl args ρ σ (λvs σ1=>cl f vs σ1 Q X) X
 | .bi b args,ρ,σ,Q,X=>G.calm=Jc/\wes G cl args ρ σ (λvs σ1=>wbi b vs σ1 Q) X
 | .isi a j,ρ,σ,Q,X=>stat j=Jc/\we G cl a ρ σ (λv σ1=>oB (λb=>Q (.bool b) σ1) (isiV G σ1 v j)) X
 | .meth o m args,ρ,σ,Q,X=>we G cl o ρ σ (λW σ1=>recv m σ1 W/\wes G cl args ρ σ1 (λvs O=>wmeth m W vs O Q) X) X
 | .dict0,_,σ,Q,_=>G.full=Jc/\wnew (.dict [] []) σ Q
 | .get a k,ρ,σ,Q,X=>we G cl a ρ σ (λA σ1=>onD σ1 (λo0 o0=>True) A/\we G cl k ρ σ1 (λI O=>onD O (λks l=>oK (λk=>wget (klook ks l k) O Q) (keyOf I)) A) X) X
 | .sd a k,ρ,σ,Q,X=>we G cl a ρ σ (λA σ1=>onD σ1 (λo0 o0=>True) A/\we G cl k ρ σ1 (λI O=>wsd A O Q I) X) X
 | .attr x f,ρ,σ,Q,_=>oV (λv=>oV (λu=>Q u σ) (pattr G σ f v)) (ρ.get x)
 | .mcall f o args,ρ,σ,Q,X=>G.fn f=Jc/\we G cl o ρ σ (λW σ1=>onI σ1 W/\wes G cl args ρ σ1 (λvs O=>cl f (W::vs) O Q X) X) X
 | .lr a,ρ,σ,Q,X=>G.calm=Jc/\we G cl a ρ σ (λA σ1=>onInt (wlr σ1 Q) A) X
noncomputable def wes(G:Gx)(cl:Cl):List E->Rho->PH->(List PV->PH->Prop)->XPost->Prop
 |[],_,σ,Q,_=>Q [] σ
 |e::es,ρ,σ,Q,X=>we G cl e ρ σ (λv σ1=>wes G cl es ρ σ1 (λvs O=>Q (v::vs) O) X) X
end
abbrev SPost:=Fl->Rho->PH->Prop
abbrev fF:=PX->Rho->PH->Prop
noncomputable def onFl(K:Rho->PH->Prop)(Q:SPost):SPost
 | .next,ρ,σ=>K ρ σ
 | .ret v,ρ,σ=>Q (.ret v) ρ σ
noncomputable def forGo(chk:PH->Prop)(tg:Tg)(body:Rho->PH->SPost->Prop)(Q:SPost):List PV->Rho->PH->Prop
 |[],ρ,σ=>chk σ/\Q .next ρ σ
 |x::s,ρ,σ=>chk σ/\oR (λh=>body h σ (onFl (λD O=>forGo chk tg body Q s D O) Q)) (bindT tg x ρ)
def wset(o i v:PV)(σ:PH)(K:PH->Prop):Prop:=
 match o with
 | .ref a=>onDO (λs l=>l.length<lim/\oK (λk=>K (σ.set a (kset s l k v))) (keyOf i)) (σ a)\/onO (λl=>onInt (λk=>oNat (λj=>l.length<=lim/\K (σ.set a (.list (l.set j v)))) (place l.length k)) i) (σ a)
 |_=>False
noncomputable def whGo(tst:Rho->PH->(Bool->PH->Prop)->Prop)(body:Rho->PH->SPost->Prop)(Q:SPost):Nat->Rho->PH->Prop
 |0,_,_=>False
 |n+1,ρ,σ=>tst ρ σ λb m=>if b then body ρ m (onFl (λD O=>whGo tst body Q n D O) Q) else Q .next ρ m
mutual
noncomputable def ws(G:Gx)(cl cu:Cl):S->Rho->PH->SPost->fF->Prop
 | .assign (.name x) e,ρ,σ,Q,X=>we G cl e ρ σ (λv σ1=>Q .next (ρ.put x v) σ1) λx σ1=>X x ρ σ1
 | .assign (.tup xs) e,ρ,σ,Q,X=>G.calm=Jc/\we G cl e ρ σ (λv σ1=>oR (λρ'=>Q .next ρ' σ1) (bindT (.tup xs) v ρ)) λx σ1=>X x ρ σ1
 | .setIdx o i e,ρ,σ,Q,X=>we G cl e ρ σ (λv σ1=>we G cl o ρ σ1 (λW O=>we G cl i ρ O (λC σ3=>wset W C v σ3 λm=>Q .next ρ m) λx σ1=>X x ρ σ1) λx σ1=>X x ρ σ1) λx σ1=>X x ρ σ1
 | .expr e,ρ,σ,Q,X=>we G cl e ρ σ (λo0 σ1=>Q .next ρ σ1) λx σ1=>X x ρ σ1
 | .ret e,ρ,σ,Q,X=>we G cl e ρ σ (λv σ1=>Q (.ret v) ρ σ1) λx σ1=>X x ρ σ1
 | .if_ t b o,ρ,σ,Q,X=>we G cl t ρ σ (λv σ1=>cy (λc=>if c then wss G cl cu b ρ σ1 Q X else wss G cl cu o ρ σ1 Q X) v) λx σ1=>X x ρ σ1
 | .for_ tg k g b,ρ,σ,Q,X=>G.calm=Jc/\wes G cl g ρ σ (λvs σ1=>src k vs σ1 λxs chk=>xs.length<=lim/\forGo chk tg (λρ σ K=>wss G cl cu b ρ σ K λo0 o0 o0=>False) Q xs ρ σ1) λx σ1=>X x ρ σ1
 | .while_ t b,ρ,σ,Q,X=>G.calm=Jc/\∃k,whGo (λρ σ K=>we G cl t ρ σ (λv σ1=>cy (λc=>K c σ1) v) λx σ1=>X x ρ σ1) (λρ σ K=>wss G cl cu b ρ σ K X) Q k ρ σ
 | .raise c args,ρ,σ,_,X=>(G.full=Jc/\G.calm=Jc/\(G.mks.contains c=Jc\/(G.inis.contains c=Jc/\args.length=(G.flds c).length)))/\wes G cl args ρ σ (λvs σ1=>X ⟨c,vs.take (G.flds c).length⟩ ρ σ1) λx σ1=>X x ρ σ1
 | .try1 b c h,ρ,σ,Q,_=>(G.full=Jc/\G.calm=Jc/\G.cs.contains c=Jc)/\wss G cl cu b ρ σ Q λe j σ1=>
   if G.sub e.c c then wss G.un cu cu h j σ1 Q λo0 o0 o0=>False
   else False
noncomputable def wss(G:Gx)(cl cu:Cl):List S->Rho->PH->SPost->fF->Prop
 |[],ρ,σ,Q,_=>Q .next ρ σ
 |s::r,ρ,σ,Q,X=>ws G cl cu s ρ σ (onFl (λj σ1=>wss G cl cu r j σ1 Q X) Q) X
end
section
variable{G:Gx}{cl cu:Cl}{ρ:Rho}{σ:PH}
section
variable{Q:Post}{X:XPost}
end
section
variable{Q:List PV->PH->Prop}{X:XPost}
end
section
variable{Q:SPost}{X:fF}
end
end
structure Cx where
 prog:Jn
 w:Jm
 B:Ji
 cls:String->Option Jg
 flds:String->List String
 fv:String->Option Jf
 ok:Prop
 calm:Prop
 K:List (Jg×Jp)
 icl:Option Jg
noncomputable def Cx.un(C:Cx):Cx:={C with calm:=False}
noncomputable abbrev tupO(vs:Array Jf)(n:Nat):Jp:={cls:= .type "tuple",dict:=Jb,data:= .seq vs n,slots:= #[]}
noncomputable abbrev lstO(vs:Array Jf)(n:Nat):Jp:={cls:= .type "list",dict:=Jb,data:= .seq vs n,slots:= #[]}
mutual
noncomputable def VR(C:Cx)(σ:PH)(h:Ji):PV->Jf->Prop
 | .none,v=>v= .none
 | .bool b,v=>v= .bool b
 | .int i,v=>∃t,v= .int i t
 | .str s,v=>∃t,v= .str (Qb s) t
 | .tup l,v=>X3 λa n vs=>A4 (v= .ref a) (σ a=Jb) (h.get? a=Ja (tupO vs n))<|VRs C σ h l vs.toList
 | .ref a,v=>v= .ref a
 | .scr l,v=>X4 λa o n vs=>A6 (v= .ref a) (C.B.get? a=Ja o) (o.cls= .type "list") (o.data= .seq vs n) (vs.size=l.length) (∀ (i:Nat) (k:Int),l[i]? =Ja k->∃t,vs[i]? =Ja (Value.int k t))
noncomputable def VRs(C:Cx)(σ:PH)(h:Ji):List PV->List Jf->Prop
 |[],vs=>vs=[]
 |p::ps,vs=>X2 λv r=>A3 (vs=v::r) (VR C σ h p v)<|VRs C σ h ps r
end
inductive FD(C:Cx)(σ:PH)(h:Ji)(c:String)(fs:List PV)(o:Jp):Prop
 |mk (es:Array JN) (ep:Nat) (e:o.data= .dict es ep) (k:StrKeys es) (v:∀ (i:Nat) f p,(C.flds c)[i]? =Ja f->fs[i]? =Ja p->∃v,nsFind es (Qb f)=Ja v/\VR C σ h p v) (n:∀x,(∀f∈C.flds c,x≠Qb f)->nsFind es x=Option.none):FD C σ h c fs o
inductive KeyAt(C:Cx)(σ:PH)(h:Ji)(k:List KA)(a:Jg):Prop
 |mk (n:σ a=Option.none) (vs:Array Jf) (m:Nat) (g:h.get? a=Ja (tupO vs m)) (i:ItemsAre (mk C.prog C.w) k vs.toList):KeyAt C σ h k a
inductive DR(C:Cx)(σ:PH)(h:Ji)(ks:List (List KA))(l:List PV)(o:Jp):Prop
 |mk (es:Array JN) (ep:Nat) (xs:List (List KA×Jg×Jf)) (x:o.ExactDict) (d:o.data= .dict es ep) (e:es.toList=xs.map (JL (tk C.prog C.w))) (k:xs.map (·.1)=ks) (nd:ks.Nodup)
  (ka:∀y∈xs,KeyAt C σ h y.1 y.2.1) (v:VRs C σ h l (xs.map (·.2.2))):DR C σ h ks l o
def OR(C:Cx)(σ:PH)(h:Ji):PO->Jp->Prop
 | .list l,o=>∃v n,o=lstO v n/\VRs C σ h l v.toList
 | .dict s l,o=>DR C σ h s l o
 | .fd c f,o=>FD C σ h c f o
 | .inst d,o=>∃k,A5 (C.icl=Ja k) (o.cls= .ref k) (∀c,o.data≠ .cls c) (o.dict=Ja d) (∃f,σ d=Ja (.fd "Bounds" f))
noncomputable def PO.needs(ok:Prop)(a:Jg):PO->Prop
 | .dict .. =>a≠JC
 |_=>True
structure Sim(C:Cx)(σ:PH)(h:Ji):Prop where
 base:∀b o,C.B.get? b=Ja o->h.get? b=Ja o
 new:∀a o,σ a=Ja o->C.B.get? a=Jb
 objs:∀a o,σ a=Ja o->∃ob,h.get? a=Ja ob/\OR C σ h o ob
 rich:∀a o,σ a=Ja o->o.needs C.ok a
def Like(o o':Jp):Prop:=o'.cls=o.cls/\o'.dict=o.dict/\o'.data=o.data/\((∀e n,o.data≠ .dict e n)->o'.slots=o.slots)
theorem Like.eq{o o':Jp}(x:Like o o')(h:∀es n,o.data≠ .dict es n):o'=o:=by
 obtain⟨c,d,R,l⟩:=o;obtain⟨Q,X,t,s⟩:=o';obtain⟨N,p,J,w⟩:=x;simp only at N p J w;subst N p J;rw[w h]
def isSeq(o:Jp):Prop:=∃x n,o.data= .seq x n
structure Step(S:Jg->Prop)(σ:PH)(h:Ji)(σ':PH)(h':Ji):Prop where
 keep:∀b o,h.get? b=Ja o->σ b=Jb->σ' b=Jb/\∃o',h'.get? b=Ja o'/\((S b->isSeq o)->Like o o')
 grow:∀b o,σ b=Ja o->∃o',σ' b=Ja o'
 fix:∀b o,σ b=Ja o->o.fixed=Jc->σ' b=Ja o
 live:∀b,h'.get? b=Jb->h.get? b=Jb
theorem Like.refl(o:Jp):Like o o:=⟨rfl,rfl,rfl,λo0=>rfl⟩
theorem Like.trans(x:Like a b)(y:Like b c):Like a c:=⟨y.1.trans x.1,y.2.1.trans x.2.1,y.2.2.1.trans x.2.2.1,λh=>(y.2.2.2 (λs n e=>h s n (x.2.2.1.symm.trans e))).trans (x.2.2.2 h)⟩
theorem Like.isSeq(x:Like a b)(y:isSeq a):isSeq b:=by obtain⟨s,n,e⟩:=y;exact⟨s,n,x.2.2.1.trans e⟩
theorem Step.refl(S:Jg->Prop)(σ:PH)(h:Ji):Step S σ h σ h:=⟨λo0 o e s=>⟨s,o,e,λo0=> .refl o⟩,λo0 o e=>⟨o,e⟩,λo0 o0 e o0=>e,λo0 e=>e⟩
theorem Step.trans{S:Jg->Prop}{d K W:PH}(x:Step S d h K p)(y:Step S K p W B):Step S d h W B where
 keep:=λb o e s=>by
  obtain⟨G,i,g,l⟩:=x.keep b o e s;obtain⟨C,z,H,w⟩:=y.keep b i g G;exact⟨C,z,H,λq=>(l q).trans (w λc=>(l q).isSeq (q c))⟩
 grow:=λb o e=>by obtain⟨i,g⟩:=x.grow b o e;exact y.grow b i g
 fix:=λb o e f=>y.fix b o (x.fix b o e f) f
 live:=λb e=>x.live b<|y.live b e
theorem Step.mono{S r:Jg->Prop}{h A:Ji}(x:Step S σ h σ' A)(k:∀b,(h.get? b).isSome->S b->r b):Step r σ h σ' A where
 keep:=λb o e s=>by obtain⟨G,i,g,l⟩:=x.keep b o e s;exact⟨G,i,g,λq=>l λf=>q<|k b (by simp[e]) f⟩
 grow:=x.grow
 fix:=x.fix
 live:=x.live
mutual
theorem VR.step{S:Jg->Prop}(st:Step S σ h σ' A):∀ (p:PV) (v:Jf),VR C σ h p v->VR C σ' A p v
 | .none=>λo0 e=>e
 | .bool _=>λo0 e=>e
 | .int _=>λo0 e=>e
 | .str _=>λo0 e=>e
 | .ref _=>λo0 e=>e
 | .scr _=>λo0 e=>e
 | .tup l=>λv e=>by
  obtain⟨a,n,vs,T,es,w,V⟩:=e;obtain⟨s,o',o,k⟩:=st.keep a _ w es;rw[(k λo0=>⟨vs,n,rfl⟩).eq (by simp)] at o;exact⟨a,n,vs,T,s,o,VRs.step st l _ V⟩
theorem VRs.step{S:Jg->Prop}(st:Step S σ h σ' A):∀ (l:List PV) (vs:List Jf),VRs C σ h l vs->VRs C σ' A l vs
 |[]=>λo0 e=>e
 |p::ps=>λvs e=>by
  obtain⟨v,r,T,w,X⟩:=e;exact⟨v,r,T,VR.step st p v w,VRs.step st ps r X⟩
end
theorem KeyAt.step{S:Jg->Prop}(st:Step S σ h σ' A)(x:KeyAt C σ h k a):KeyAt C σ' A k a:=by
 obtain⟨n,v,m,g,i⟩:=x;obtain⟨X,o,e,l⟩:=st.keep a _ g n;rw[(l λo0=>⟨v,m,rfl⟩).eq (by simp)] at e;exact⟨X,v,m,e,i⟩
theorem OR.step{S:Jg->Prop}(st:Step S σ h σ' A):∀ (p:PO) (o:Jp),OR C σ h p o->OR C σ' A p o:=λp o r=>by
 induction p with
 |list l=>obtain⟨J,n,F,X⟩:=r;exact⟨J,n,F,VRs.step st _ _ X⟩
 |dict=>obtain⟨s,H,P,x,d,e,k,nd,a,v⟩:=r;exact⟨s,H,P,x,d,e,k,nd,λy W=>(a y W).step st,VRs.step st _ _ v⟩
 |fd=>obtain⟨s,H,e,k,v,z⟩:=r;exact⟨s,H,e,k,λi f p N Y=>(v i f p N Y).imp λu q=>⟨q.1,VR.step st _ _ q.2⟩,z⟩
 |inst d=>obtain⟨k,T,F,X,I,V⟩:=r;exact⟨k,T,F,X,I,V.imp λL w=>st.fix d _ w rfl⟩
def Rest(s s':Je):Prop:=s'.gens=s.gens/\s'.os=s.os
theorem Rest.refl(s:Je):Rest s s:=⟨rfl,rfl⟩
theorem Rest.trans(x:Rest a b)(y:Rest b c):Rest a c:=⟨y.1.trans x.1,y.2.trans x.2⟩
noncomputable def none1:Jg->Prop:=λo0=>False
inductive FF(C:Cx)(x:PX)(σ:PH)(h₀ h:Ji)(od:Option Jg):Prop
 |no (f:x.fs=[]) (e:od=Option.none):FF C x σ h₀ h od
 |at_ (f:x.fs≠ []) (d:Jg) (o:Jp) (e:od=Ja d) (b:C.B.get? d=Option.none) (n:σ d=Option.none) (z:h₀.get? d=Option.none) (g:h.get? d=Ja o) (r:FD C σ h x.c x.fs o):FF C x σ h₀ h od
theorem FF.from{S:Jg->Prop}(f:FF C x σ V h v)(st:Step S B h₀ p V):FF C x σ h₀ h v:=by
 induction f with
 |no f e=>exact .no f e
 |at_ f d o e b n z g r=>exact .at_ f d o e b n (st.live _ z) g r
inductive Fly(C:Cx)(own:Option Jg)(x:PX)(e:Jf)(σ:PH)(h₀ h:Ji):Prop
 |mk (a:Jg) (o:Jp) (vs:Array Jf) (k:Jg) (q1:e= .ref a) (q2:C.B.get? a=Option.none) (q3:σ a=Option.none) (q4:h₀.get? a=Option.none) (q5:h.get? a=Ja o) (q6:C.cls x.c=Ja k) (q7:o.cls= .ref k) (q8:o.data= .fields vs) (q9:vs[2]? =Ja .none)
  (q10:vs[1]? =Ja .none\/X3 λT oT ts=>A8 (vs[1]? =Ja (.ref T)) (T≠a) (C.B.get? T=Option.none) (σ T=Option.none) (h₀.get? T=Option.none) (h.get? T=Ja oT) (oT.data= .fields ts)<|(ts[3]? =Ja .none\/∃L,own=Ja L/\ts[3]? =Ja (Jx L))) (q11:FF C x σ h₀ h o.dict):Fly C own x e σ h₀ h
theorem Fly.from{S:Jg->Prop}{own:Option Jg}{σ B d:PH}(f:Fly C own x e σ V h)(st:Step S B h₀ d V):Fly C own x e σ h₀ h:=by
 obtain⟨a,o,v,k,c,R,Q,N,j,Z,M,n,F,J,q⟩:=f;refine⟨a,o,v,k,c,R,Q,st.live _ N,j,Z,M,n,F,J.imp id ?_,q.from st⟩;rintro ⟨T,W,t,w,I,O,D,y,z,K,U⟩;exact⟨T,W,t,w,I,O,D,st.live _ y,z,K,U⟩
theorem Fly.weak{own:Option Jg}(f:Fly C Jb x e σ h₀ h):Fly C own x e σ h₀ h:=by
 obtain⟨a,o,v,k,c,R,Q,N,j,Z,M,n,F,J,q⟩:=f;refine⟨a,o,v,k,c,R,Q,N,j,Z,M,n,F,J.imp id ?_,q⟩;rintro ⟨T,W,t,w,I,S,D,B,d,y,U⟩;exact⟨T,W,t,w,I,S,D,B,d,y,U.imp id λA=>by obtain⟨L,z,o0⟩:=A;exact(ns z)⟩
inductive VP(C:Cx)(S:Jg->Prop)(σ:PH)(s:Je)(Q:Post)(v:Jf)(s':Je):Prop
 |mk (p:PV) (σ':PH) (a:VR C σ' s'.heap p v) (b:Sim C σ' s'.heap) (c:Step S σ s.heap σ' s'.heap) (d:Rest s s') (e:Q p σ'):VP C S σ s Q v s'
inductive VPs(C:Cx)(S:Jg->Prop)(σ:PH)(s:Je)(Q:List PV->PH->Prop)(v:List Jf)(s':Je):Prop
 |mk (p:List PV) (σ':PH) (a:VRs C σ' s'.heap p v) (b:Sim C σ' s'.heap) (c:Step S σ s.heap σ' s'.heap) (d:Rest s s') (e:Q p σ'):VPs C S σ s Q v s'
inductive XP(C:Cx)(S:Jg->Prop)(σ:PH)(s:Je)(X:XPost)(e:Jf)(s':Je):Prop
 |mk (x:PX) (σ':PH) (a:Fly C Option.none x e σ' s.heap s'.heap) (b:Sim C σ' s'.heap) (c:Step S σ s.heap σ' s'.heap) (d:Rest s s') (q:X x σ'):XP C S σ s X e s'
theorem VP.from{S:Jg->Prop}{s s₁:Je}(st:Step S σ s.heap o s₁.heap)(r:Rest s s₁)(x:VP C S o s₁ Q v s'):VP C S σ s Q v s':=
 by obtain⟨p,X,a,b,c,d,e⟩:=x;exact⟨p,X,a,b,st.trans c,r.trans d,e⟩
theorem XP.from{S:Jg->Prop}{s s₁:Je}(st:Step S σ s.heap o s₁.heap)(r:Rest s s₁)(x:XP C S o s₁ X v s'):XP C S σ s X v s':=
 by obtain⟨p,T,a,b,c,d,e⟩:=x;exact⟨p,T,a.from st,b,st.trans c,r.trans d,e⟩
def Frs(C:Cx)(σ:PH)(h:Ji)(l:List Js):Prop:=
 ∀e∈l,e.scope.kind≠ .module/\X4 λL o s n=>A5 (e.frame=Ja L) (C.B.get? L=Jb) (σ L=Jb) (h.get? L=Ja o)<|o.data= .dict s n
theorem Frs.step{S:Jg->Prop}(f:Frs C σ h l)(st:Step S σ h σ' A)(E:∀env∈l,∀L,env.frame=Ja L->¬S L):Frs C σ' A l:=λenv O=>by
 obtain⟨k,L,o,s,n,e,w,X,u,V⟩:=f env O;obtain⟨q,i,m,N⟩:=st.keep L o u X;have N:=N λb=>absurd b<|E env O L e;exact⟨k,L,i,s,n,e,w,q,m,N.2.2.1.trans V⟩
theorem Frs.fun{C:Cx}{h:Ji}:∀ {l:List Js},Frs C σ h l->h.FunFrames C.B l
 |[]=>λo0=>trivial
 |env::r=>λf=>by
  obtain⟨k,L,o,s,n,T,w,X,u,V⟩:=f env<|.head _;exact⟨k,⟨L,o,T,w,u,λv q=>by rw[V] at q;cases q⟩,Frs.fun λe O=>f e<|.tail _ O⟩
structure AOK(C:Cx)(n:Nat)(A:Jj)(l:List Js)(σ:PH)(h:Ji):Prop where
 depth:A.depth+n+2<JZ
 units:A.units+30*n+300<cLine
 stack:A.frames=Ja l
 frs:Frs C σ h l
 calm:C.calm->A.handled=Jb
structure EnvR(C:Cx)(env:Js)(ρ:Rho)(σ:PH)(h:Ji):Prop where
 fn:env.scope.kind= .function
 glob:env.globals=JA
 blt:env.builtins=builtinsNs
 ns:∃m,h.Ns env.locals m/\∀x p,ρ.get x=Ja p->env.kindOf (Qb x)=Ja .local->∃v,m (Qb x)=Ja v/\VR C σ h p v
 cell:∀x p,ρ.get x=Ja p->env.kindOf (Qb x)=Ja .cell\/env.kindOf (Qb x)=Ja .free->X2 λc v=>A3 (env.cells.lookup (Qb x)=Ja c) (h.IsCell c<|Ja v)<|VR C σ h p v
 newL:σ env.locals=Jb
 baseL:C.B.get? env.locals=Jb
 baseC:∀x c,env.cells.lookup x=Ja c->C.B.get? c=Jb
 newC:∀x c,env.cells.lookup x=Ja c->σ c=Jb/\∃v,h.IsCell c v
 apart:∀x y c,env.cells.lookup x=Ja c->env.cells.lookup y=Ja c->x=y
 hasC:∀x,env.kindOf x=Ja .cell\/env.kindOf x=Ja .free->∃c,env.cells.lookup x=Ja c
theorem Ns.like{h A:Ji}{m:Jq->Option Jf}(x:h.Ns a m)(k:∀o,h.get? a=Ja o->∃o',A.get? a=Ja o'/\Like o o'):A.Ns a m:=
 by obtain⟨o,s,p,e,r⟩:=x;obtain⟨o',g,l⟩:=k o e;exact⟨o',s,p,g,l.2.2.1.trans r.1,r.2⟩
theorem IsCell.like{h A:Ji}(x:h.IsCell a v)(k:∀o,h.get? a=Ja o->∃o',A.get? a=Ja o'/\Like o o'):A.IsCell a v:=
 by obtain⟨o,e,r⟩:=x;obtain⟨o',g,l⟩:=k o e;exact⟨o',g,l.2.2.1.trans r⟩
theorem EnvR.step(x:EnvR C env L σ h)(st:Step none1 σ h σ' A):EnvR C env L σ' A where
 fn:=x.fn
 glob:=x.glob
 blt:=x.blt
 ns:=by
  obtain⟨m,n,hv⟩:=x.ns;refine⟨m,Ns.like n λo e=> ?_,λy p T w=>by obtain⟨v,a,b⟩:=hv y p T w;exact⟨v,a,b.step st⟩⟩;obtain⟨o0,i,g,l⟩:=st.keep _ o e x.newL;exact⟨i,g,l λf=>f.elim⟩
 cell:=λy p T w=>by
  obtain⟨c,v,a,b,d⟩:=x.cell y p T w;refine⟨c,v,a,IsCell.like b λo e=> ?_,d.step st⟩;obtain⟨o0,i,g,l⟩:=st.keep _ o e (x.newC _ c a).1;exact⟨i,g,l λf=>f.elim⟩
 newL:=by
  obtain⟨m,⟨o,s,H,e,o0⟩,o0⟩:=x.ns;exact(st.keep _ o e x.newL).1
 newC:=λy c e=>by
  obtain⟨a,v,o,b,d⟩:=x.newC y c e;obtain⟨q,i,g,l⟩:=st.keep _ o b a;exact⟨q,v,i,g,(l λf=>f.elim).2.2.1.trans d⟩
 baseL:=x.baseL
 baseC:=x.baseC
 apart:=x.apart
 hasC:=x.hasC
theorem AOK.step{h S:Ji}(x:AOK C n A l σ h)(st:Step none1 σ h σ' S):AOK C n A l σ' S:=
 ⟨x.depth,x.units,x.stack,x.frs.step st λo0 o0 o0 o0 f=>f,x.calm⟩
noncomputable def nm(y:Jq)(x:String):Bool:=y==Qb x
noncomputable def isLoc(sc:Jk)(y:Jq):Bool:=sc.names.lookup y==Ja .local||sc.names.lookup y==Ja .cell||sc.names.lookup y==Ja .free
noncomputable def isOwn(sc:Jk)(y:Jq):Bool:=sc.names.lookup y==Ja .local||sc.names.lookup y==Ja .cell
noncomputable def lV(sc:Jk)(y:Jq):Bool:=sc.names.lookup y==Ja .globalImplicit
noncomputable def bu(y:Jq):Bool:= !(y==("__debug__":Jq))&& !(y==("__classdict__":Jq))
noncomputable def BOp.py:BOp->Operator
 | .add=> .Add| .sub=> .Sub| .mul=> .Mult| .fdiv=> .FloorDiv| .mod=> .Mod| .pow _=> .Pow
noncomputable def COp.py:COp->CmpOp
 | .eq=> .Eq| .ne=> .NotEq| .lt=> .Lt| .le=> .LtE| .gt _=> .Gt| .ge=> .GtE| .in_=> .In| .nin=> .NotIn
noncomputable def mOp(a:BOp)(o:Operator):Bool:=decide<|o=a.py
noncomputable def mC(a:COp)(o:CmpOp):Bool:=decide<|o=a.py
noncomputable def BI.nm:BI->String
 | .len=>"len"| .all=>"all"| .sum=>"sum"| .int=>"int"| .list=>"list"| .min=>"min"| .sorted=>"sorted"| .dict _=>"dict"| .max=>"max"| .min2=>"min"| .sortp=>"sorted"
noncomputable def Me.nm:Me->String
 | .append=>"append"
def glb(sc:Jk)(x:String):Jl->Bool
 | .Name y _=>Vl.Internal.nm y x&&lV sc y&&bu y
 |_=>Jd
noncomputable def dQ(sc:Jk):List String->List Jl->Bool
 |[],[]=>Jc
 |x::s,.Name y _::r=>Vl.Internal.nm y x&&isOwn sc y&&bu y&& !s.contains x&&dQ sc s r
 |_,_=>Jd
def mTg(sc:Jk):Tg->Jl->Bool
 | .name x,.Name y _=>Vl.Internal.nm y x&&isOwn sc y&&bu y
 | .tup s,.Tuple e _ _=>dQ sc s e
 |_,_=>Jd
noncomputable def jY(sc:Jk):List String->List Jl->Bool
 |[],[]=>Jc
 |t::v,e::s=>glb sc t e&&jY sc v s
 |_,_=>Jd
noncomputable def oneT(f:String->Bool):List String->Bool
 |[t]=>f t
 |_=>Jd
def mType(sc:Jk)(v:List String):Jl->Bool
 | .Tuple s _ _=>jY sc v s&&(decide (2<=s.length)&&decide (s.length<=100))
 |e=>oneT (λt=>glb sc t e) v
noncomputable def eC(sc s:Jk):Bool:=
 s.kind== .function&& !s.isGenerator&& !s.isCoroutine&&(s.names.all λ(n,k)=>k != .free||sc.names.lookup n==Ja .cell||sc.names.lookup n==Ja .free)&&
 (s.names.all λ(n,k)=>s.names.lookup n==Ja k)&&decide ((s.names.map (·.1)).Nodup)
noncomputable def ownOk(tg:Tg)(s:Jk):Bool:=s.names.all λ(n,k)=>(k != .local&&k != .cell)||(".0"::tg.names).any λx=>Vl.Internal.nm n x
noncomputable def bQ(f:String):Bool:= !f.toList.contains '.'
noncomputable def em:Jl->Bool
 | .Call _ [] _ _=>Jd
 |_=>Jc
noncomputable def xk:Jl->Nat
 | .Constant .. =>0| .Name .. =>1| .BinOp .. =>2| .UnaryOp .. =>3| .BoolOp .. =>4| .Compare .. =>5| .Tuple .. =>7| .List .. =>8| .Subscript .. =>10| .ListComp .. =>11| .Call .. =>12| .Attribute .. =>13| .Slice .. =>14| .Dict .. =>15
 |_=>99
def kz(x:Jl):Bool:= !(xk x==99)
noncomputable def sk:Jo->Nat
 | .Assign .. =>0| .Expr .. =>1| .Return .. =>2| .If .. =>3| .For .. =>4| .While .. =>5| .Raise .. =>6| .Try .. =>7
 |_=>99
abbrev XB:=Jl->Bool
noncomputable def tT(f:Const->Bool):XB| .Constant c _ _=>f c|_=>Jd
def qName(f:Jq->Bool)(x:String):XB| .Name y _=>Vl.Internal.nm y x&&f y&&bu y|_=>Jd
def qBin(p:BOp)(f g:XB):XB| .BinOp l o r _=>mOp p o&&f l&&g r|_=>Jd
noncomputable def qUn(u:UnaryOp)(f:XB):XB| .UnaryOp o x _=>decide (o=u)&&f x|_=>Jd
noncomputable def qBool(u:BoolOp)(f g:XB):XB
 | .BoolOp o [x,y] _=>decide (o=u)&&(f x&&g y)
 | .BoolOp o (x::y::z::r) p=>decide (o=u)&&(f x&&g (.BoolOp o (y::z::r) p))
 |_=>Jd
noncomputable def qIs(u:CmpOp)(f g:XB):XB| .Compare l [o] [c] _=>decide (o=u)&&(f l&&g c)|_=>Jd
def qCmp(p:COp)(f g:XB):XB| .Compare l [o] [r] _=>mC p o&&f l&&g r&& !(JG o r)|_=>Jd
def qCmp2(o P:COp)(f g h:XB):XB| .Compare l [n,p] [m,r] _=>mC o n&&mC P p&&f l&&g m&&h r&& !(JG p r)|_=>Jd
noncomputable def qTup(f:List Jl->Bool):XB| .Tuple e _ _=>f e&&decide (e.length<=100)|_=>Jd
noncomputable def qList(f:List Jl->Bool):XB| .List es _=>f es&&decide (es.length<=100)|_=>Jd
noncomputable def qSub(f g:XB):XB| .Subscript x y _=>f x&&g y|_=>Jd
noncomputable def qTo(g:XB):XB| .Slice Jb (Ja y) Jb _=>g y|_=>Jd
noncomputable def qFrom(g:XB):XB| .Slice (Ja y) Jb Jb _=>g y|_=>Jd
def qComp(sc:Jk)(tg:Tg)(f:XB)(g:Jk->XB):XB| .ListComp e [⟨t,i,[],a⟩] s _=>decide (a=0)&&(f i&&mTg s tg t&&g s e&&eC sc s&&ownOk tg s)|_=>Jd
def qk(sc:Jk)(tg:Tg)(f:XB)(g h:Jk->XB):XB| .ListComp e [⟨t,i,[c],a⟩] s _=>decide (a=0)&&(f i&&mTg s tg t&&g s e&&h s c&&eC sc s&&ownOk tg s)|_=>Jd
noncomputable def qCall(f:XB)(g:List Jl->Bool):XB| .Call x a [] _=>f x&&g a|_=>Jd
noncomputable def qMeth(f:Pos->XB)(g:List Jl->Bool):XB| .Call x a [] q=>f q x&&g a|_=>Jd
def qAttr(a:String)(f:XB)(g:Pos->Bool):XB| .Attribute x y p=>f x&&em x&&Vl.Internal.nm y a&&g p|_=>Jd
noncomputable def one1(f:XB):List Jl->Bool|[x]=>f x|_=>Jd
noncomputable def two2(f g:XB):List Jl->Bool|[x,y]=>f x&&g y|_=>Jd
def hCst(c:Const):XB:=λx=>xk x==0&&tT (λd=>decide (d=c)) x
def hNone:XB:=hCst .none
def hName(f:Jq->Bool)(x:String):XB:=λe=>xk e==1&&qName f x e
def hBin(o:BOp)(f g:XB):XB:=λx=>xk x==2&&qBin o f g x
def hNot(f:XB):XB:=λx=>xk x==3&&qUn .Not f x
def hAnd(f g:XB):XB:=λx=>xk x==4&&qBool .And f g x
def hOr(f g:XB):XB:=λx=>xk x==4&&qBool .Or f g x
def uX(f:XB):XB:=λx=>xk x==5&&qIs .Is f hNone x
def sy(f:XB):XB:=λx=>xk x==5&&qIs .IsNot f hNone x
def hCmp(o:COp)(f g:XB):XB:=λx=>xk x==5&&qCmp o f g x
def hCmp2(o P:COp)(f g h:XB):XB:=λx=>xk x==5&&qCmp2 o P f g h x
def hTup(f:List Jl->Bool):XB:=λx=>xk x==7&&qTup f x
def hList(f:List Jl->Bool):XB:=λx=>xk x==8&&qList f x
def hSub(f g:XB):XB:=λx=>xk x==10&&qSub f g x
def hTo(g:XB):XB:=λx=>xk x==14&&qTo g x
def hFr(g:XB):XB:=λx=>xk x==14&&qFrom g x
def hUpto(f g:XB):XB:=hSub f<|hTo g
def hFrom(f g:XB):XB:=hSub f<|hFr g
def hComp(sc:Jk)(tg:Tg)(f:XB)(g:Jk->XB):XB:=λx=>xk x==11&&qComp sc tg f g x
def qd(sc:Jk)(tg:Tg)(f:XB)(g h:Jk->XB):XB:=λx=>xk x==11&&qk sc tg f g h x
def hCl(f:XB)(g:List Jl->Bool):XB:=λx=>xk x==12&&qCall f g x
def hCall(sc:Jk)(n:String)(f:List Jl->Bool):XB:=hCl (λx=>glb sc n x&&bQ n) λa=>f a&&decide (a.length<=20)
def hBi1(sc:Jk)(n:String)(f:List Jl->Bool):XB:=hCl (glb sc n) λa=>f a&&decide (a.length<=20)
def hIsi(sc:Jk)(t:List String)(f:XB):XB:=hCl (glb sc "isinstance")<|two2 f (mType sc t)
def hAt(a:String)(f:XB)(g:Pos->Bool):XB:=λx=>xk x==13&&qAttr a f g x
noncomputable def sZ:XB| .Dict [] [] _=>Jc|_=>Jd
def t6:XB:=λx=>xk x==15&&sZ x
def hEmp:XB:=hList λe=>e.isEmpty
noncomputable def mOf(f:String):String:=String.ofList<|f.toList.drop 7
def hMc(m:String)(f:XB)(g:List Jl->Bool):XB:=λx=>xk x==12&&qMeth (λq=>hAt m f λp=>p.endLine==q.line) g x
def hAttr(a:String)(f:XB):XB:=hAt a f λo0=>Jc
def qIt(sc:Jk)(k:IK)(tg:Tg)(f:List Jl->Bool):XB:=match k with
 | .val=>λx=>f [x]
 | .range=>hCl (glb sc "range") λa=>f a&&decide (a.length=1)
mutual
noncomputable def mE(sc:Jk):E->Jl->Bool
 | .none=>hNone
 | .bool b=>hCst<|.bool b
 | .int i=>hCst<|.int i
 | .str s=>hCst<|.str (Qb s)
 | .loc x=>hName (isLoc sc) x
 | .glob x=>hName (lV sc) x
 | .bin op a b=>hBin op (mE sc a)<|mE sc b
 | .not_ a=>hNot<|mE sc a
 | .and_ a b=>hAnd (mE sc a)<|mE sc b
 | .or_ a b=>hOr (mE sc a)<|mE sc b
 | .isNone a=>uX<|mE sc a
 | .notNone a=>sy<|mE sc a
 | .cmp op a b=>hCmp op (mE sc a)<|mE sc b
 | .cmp2 a o1 b o2 c=>hCmp2 o1 o2 (mE sc a) (mE sc b)<|mE sc c
 | .tup l=>hTup<|mEs sc l
 | .list l=>hList<|mEs sc l
 | .sub a i=>hSub (mE sc a)<|mE sc i
 | .upto a i=>hUpto (mE sc a)<|mE sc i
 | .from_ a i=>hFrom (mE sc a)<|mE sc i
 | .comp elt tg k it=>hComp sc tg (qIt sc k tg (mEs sc it)) λsc'=>mE sc' elt
 | .compIf elt tg k it c=>qd sc tg (qIt sc k tg (mEs sc it)) (λsc'=>mE sc' elt) λsc'=>mE sc' c
 | .call f args=>hCall sc f<|mEs sc args
 | .bi b args=>hBi1 sc b.nm<|mEs sc args
 | .isi a ts=>hIsi sc ts λx=>kz x&&mE sc a x
 | .meth o m args=>hMc m.nm (mE sc o) λas=>mEs sc args as&&decide (as.length=1)
 | .dict0=>t6
 | .get a k=>hMc "get" (mE sc a) (two2 (λx=>kz x&&mE sc k x) hEmp)
 | .sd a k=>hMc "setdefault" (mE sc a) (two2 (λx=>kz x&&mE sc k x) hEmp)
 | .attr x f=>hAttr f<|hName (isLoc sc) x
 | .mcall f o args=>hMc (mOf f) (mE sc o) λas=>mEs sc args as&&(decide (as.length<=20)&& !bQ f)
 | .lr a=>hCl (glb sc "list") (one1 (hCl (glb sc "range") (one1 λx=>kz x&&mE sc a x)))
noncomputable def mEs(sc:Jk):List E->List Jl->Bool
 |[],[]=>Jc
 |a::as,x::xs=>(kz x&&mE sc a x)&&mEs sc as xs
 |_,_=>Jd
end
def mIt(sc:Jk)(k:IK)(tg:Tg)(i:List E):XB:=qIt sc k tg<|mEs sc i
noncomputable def E.isC:E->Bool
 | .comp .. | .compIf .. =>Jc
 |_=>Jd
abbrev SB:=Jo->Bool
abbrev SBs:=List Jo->Bool
noncomputable def rAsg(f h:XB):SB| .Assign [t] v _=>f t&&h v|_=>Jd
noncomputable def rExpr(f:XB):SB| .Expr v _=>f v|_=>Jd
noncomputable def rRet(f:XB):SB| .Return (Ja v) _=>f v|_=>Jd
noncomputable def rIf(f:XB)(g h:SBs):SB| .If x y z _=>f x&&g y&&h z|_=>Jd
noncomputable def rFor(f g:XB)(h:SBs):SB| .For t i y [] _=>f t&&g i&&h y|_=>Jd
noncomputable def tD(f:XB)(h:SBs):SB| .While t y [] _=>f t&&h y|_=>Jd
noncomputable def sh(f:XB):SB| .Raise (Ja x) Jb _=>f x|_=>Jd
noncomputable def rTry(f:SBs)(g:List J2->Bool):SB| .Try y h [] [] _=>f y&&g h|_=>Jd
def rHd(sc:Jk)(c:String)(g:SBs):J2->Bool| .ExceptHandler (Ja t) n (z::r) _=>glb sc c t&&n.isNone&&g (z::r)|_=>Jd
noncomputable def rH1(f:J2->Bool):List J2->Bool|[h]=>f h|_=>Jd
def hOwn(sc:Jk)(x:String):XB:=λe=>xk e==1&&qName (isOwn sc) x e
noncomputable def qTupT(f:List Jl->Bool):XB| .Tuple e _ _=>f e|_=>Jd
def hTupT(f:List Jl->Bool):XB:=λe=>xk e==7&&qTupT f e
def kAsg(f h:XB):SB:=λx=>sk x==0&&rAsg f h x
def kExpr(f:XB):SB:=λx=>sk x==1&&rExpr f x
def kRet(f:XB):SB:=λx=>sk x==2&&rRet f x
def kIf(f:XB)(g h:SBs):SB:=λx=>sk x==3&&rIf f g h x
def kFor(f g:XB)(h:SBs):SB:=λx=>sk x==4&&rFor f g h x
def sB(f:XB)(h:SBs):SB:=λx=>sk x==5&&tD f h x
def s9(f:XB):SB:=λx=>sk x==6&&sh f x
def kTry(f:SBs)(g:List J2->Bool):SB:=λx=>sk x==7&&rTry f g x
mutual
noncomputable def mS(sc:Jk):S->Jo->Bool
 | .assign (.name x) e=>kAsg (hOwn sc x) λv=>(kz v&&(!(xk v==11)||e.isC))&&mE sc e v
 | .assign (.tup xs) e=>kAsg (hTupT (dQ sc xs)) λv=>(kz v&& !(xk v==7))&&mE sc e v
 | .setIdx o i e=>kAsg (hSub (mE sc o) (mE sc i)) λv=>kz v&&mE sc e v
 | .expr e=>kExpr λv=>xk v==12&&mE sc e v
 | .ret e=>kRet<|mE sc e
 | .if_ t b o=>kIf (mE sc t) (mSs sc b)<|mSs sc o
 | .for_ tg k it b=>kFor (mTg sc tg) (mIt sc k tg it)<|mSs sc b
 | .while_ t b=>sB (mE sc t)<|mSs sc b
 | .raise c args=>s9<|hBi1 sc c (mEs sc args)
 | .try1 b c h=>kTry (mSs sc b)<|rH1 (rHd sc c<|mSs sc h)
noncomputable def mSs(sc:Jk):List S->List Jo->Bool
 |[],[]=>Jc
 |a::as,x::xs=>mS sc a x&&mSs sc as xs
 |_,_=>Jd
end
section
open PySem.W PyProof.Rows
structure Fn where
 f:String
 ps:List String
 ls:List String
 b:List S
structure Cls where
 a1:String
 f1:String
 f2:String
 e1:E
 e2:E
 ms:List Fn
structure Kinds where
 cs:List String
 mks:List String
 inis:List String
 flds:String->List String
 sub:String->String->Bool
 cl:Option Cls
noncomputable def b6(K:Frag)(c:String):Option Jg:=match nsIn K JA (Qb c) with
 |some (Ja (.ref a))=>Ja a
 |_=>Jb
def tA(K:Frag)(k:Kinds)(c:String):Bool:=match b6 K c with
 |some a=>((k.flds c).all λf=>findIn K (.ref a) (Qb f)==Ja Jb)&&k.cs.all λd=>match b6 K d with
  |some b=>exmOne K (.ref a) (.ref b)==Ja (k.sub c d)
  |none=>Jd
 |none=>Jd
def jT(K:Frag)(k:Kinds):Bool:=k.cs.all<|tA K k
noncomputable def xg(o:Jp):List Jg:=match o.data with
 | .cls cd=>[cd.ns]
 |_=>[]
def xJ(h:Ji)(cs:List String):List Jg:=JA::cs.flatMap λc=>match h.nsMap JA (Qb c) with
 |some (.ref a)=>match h.get? a with
  |some o=>a::xg o
  |none=>[]
 |_=>[]
noncomputable def gD(h:Ji)(as:List Jg):Frag:=as.filterMap λa=>(h.get? a).map λo=>(a,o)
noncomputable def mIni(sc:Jk):List String->List Jo->Bool
 |[],[]=>Jc
 |x::xs,y::ys=>kAsg (hAttr x<|hName (isLoc sc) "self") (hName (isLoc sc) x) y&&mIni sc xs ys
 |_,_=>Jd
noncomputable def lw(ps:List String):Arguments->Bool
 |⟨[],as,Jb,[],_,Jb,_⟩=>as.map (·.arg)==ps.map Qb
 |_=>Jd
noncomputable def refOf:Option Jf->Option Jg
 |some (.ref a)=>Ja a
 |_=>Jb
noncomputable def clsOf:Data->Option ClassData
 | .cls cd=>Ja cd
 |_=>Jb
noncomputable def lE(h:Ji):List Jf->Bool
 |[]=>Jd
 |v::tl=>(v::tl==bmE)||(refOf (Ja v)).any λA=>(h.get? A).any λo=>(clsOf o.data).any λcd=>h.isNs cd.ns&&(h.nsMap cd.ns "__init__").isNone&&lE h tl
def fnIni(h:Ji)(fd:Jr)(names:List String)(body:List Jo):Bool:=
 (h.codeRecOk fd.code fd.qualname&&fd.closure.isEmpty&&(fd.defaults== .none))&&(lw ("self"::names) fd.params&&(("self"::names).all λx=>fd.scope.names.lookup (Qb x)==Ja .local&& !(Qb x==("__debug__":Jq)))&&decide ("self"::names).Nodup)&&
  (!fd.scope.isCoroutine&& !fd.scope.isGenerator&&(fd.scope.kind== .function))&&mIni fd.scope names body
noncomputable def oX:FuncBody->Option (List Jo)
 | .stmts b=>Ja b
 |_=>Jb
noncomputable def o9:Data->Option Jr
 | .func fd=>Ja fd
 |_=>Jb
def fnObj(h:Ji)(names:List String)(o:Jp):Bool:=(o.cls== .type "function")&&((o9 o.data).any λfd=>(oX fd.body).any λbody=>fnIni h fd names body)
noncomputable def pd(l:List (Option Jf)):Bool:=l==[l[0]?.getD Jb,l[1]?.getD Jb,l[2]?.getD Jb,l[3]?.getD Jb,Ja<|.builtin "ValueError.__new__",l[5]?.getD Jb]
def mroOK(h:Ji)(k:Jg):List Jf->Bool
 |v::bm=>(v== .ref k)&&lE h bm
 |[]=>Jd
def xe(h:Ji)(k:Jg)(names:List String)(o:Jp)(cd:ClassData):Bool:=
 ((o.cls== .type "type")&&pd o.slots.toList&&mroOK h k cd.mro)&&(cd.hasDict&& !cd.hasDel&&h.isNs cd.ns)&&((refOf<|h.nsMap cd.ns "__init__").any λfI=>(h.get? fI).any (fnObj h names))
def iniOK(h:Ji)(K:Frag)(k:Jg)(names:List String):Bool:=
 ((h.get? k).any λo=>(clsOf o.data).any (xe h k names o))&&(findIn K (.ref k) "__setattr__"==Ja (Ja<|.builtin "object.__setattr__"))&& !names.isEmpty&&decide (names.length<=50)
def xH(h:Ji)(K:Frag)(k:Kinds):Bool:=k.inis.all λc=>k.cs.contains c&&((b6 K c).any λa=>iniOK h K a (k.flds c))
def mAsg(sc:Jk)(f:String)(e:E):Jo->Bool:=kAsg (hAttr f (hName (isLoc sc) "self")) λv=>kz v&&mE sc e v
def fnB(h:Ji)(ps:List String)(fd:Jr):Bool:=
 (h.codeRecOk fd.code fd.qualname&&fd.closure.isEmpty&&(fd.defaults== .none))&&(fd.globals==JA&&(fd.builtins==builtinsNs)&&lw ps fd.params)&&
  ((ps.all λp=>fd.scope.names.lookup (Qb p)==Ja .local||fd.scope.names.lookup (Qb p)==Ja .cell)&&decide ps.Nodup&&(fd.scope.names.all λp=>p.2 != .free))&&(!fd.scope.isCoroutine&& !fd.scope.isGenerator&&(fd.scope.kind== .function))
def ou(h:Ji)(ps:List String)(mt:Jk->List Jo->Bool)(a:Jg):Bool:=(h.get? a).any λo=>(o.cls== .type "function")&&((o9 o.data).any λfd=>(oX fd.body).any λb=>fnB h ps fd&&mt fd.scope b)
def initM(c:Cls)(sc:Jk):List Jo->Bool
 |[y1,y2]=>mAsg sc c.f1 c.e1 y1&&mAsg sc c.f2 c.e2 y2
 |_=>Jd
noncomputable def tC(l:List (Option Jf)):Bool:=l==[l[0]?.getD Jb,l[1]?.getD Jb,l[2]?.getD Jb,l[3]?.getD Jb,Ja<|.builtin "object.__new__",l[5]?.getD Jb]
def yk(h:Ji)(c:Cls)(a:Jg)(o:Jp)(cd:ClassData):Bool:=
 ((o.cls== .type "type")&&tC o.slots.toList&&(cd.mro==[.ref a,.type "object"]))&&(cd.hasDict&& !cd.hasDel&& !cd.abstract)&&(h.isNs cd.ns&&(h.nsMap cd.ns "__setattr__").isNone&&([c.f1,c.f2].all λf=>(h.nsMap cd.ns<|Qb f).isNone&&(fastLookup "object" (Qb f)==Ja Jb)))&&
  ((refOf<|h.nsMap cd.ns "__init__").any (ou h ["self",c.a1] (initM c)))
def methB(h:Ji)(K:Frag)(c:Cls)(a:Jg)(t:Fn):Bool:= !bQ t.f&& !([c.f1,c.f2].contains (mOf t.f))&&((refOf ((findIn K (.ref a) (Qb (mOf t.f))).getD Jb)).any λm=>(typeIn K (.ref m)==Ja (.type "function"))&&ou h t.ps (λsc b=>mSs sc t.b b) m)
def clsB(h:Ji)(K:Frag)(c:Cls)(a:Jg):Bool:=
 ((h.get? a).any λo=>(clsOf o.data).any (yk h c a o))&&((findIn K (.ref a) "__getattribute__"==Ja (Ja<|.builtin "object.__getattribute__"))&&(findIn K (.ref a) "__getattr__"==Ja Jb)&&hasDictIn K a&&([c.f1,c.f2].all λf=>findIn K (.ref a) (Qb f)==Ja Jb))&&
  c.ms.all (methB h K c a)&&decide (c.f1≠c.f2)
def vd(h:Ji)(c:Cls):List Jg:=((refOf (h.nsMap JA (Qb "Bounds"))).bind λa=>(h.get? a).bind λo=>(clsOf o.data).map λcd=>c.ms.filterMap λt=>refOf (h.nsMap cd.ns (Qb (mOf t.f)))).getD []
def kFrag(h:Ji)(k:Kinds):Frag:=gD h<|xJ h (k.cs++["Bounds"])++(k.cl.map<|vd h).getD []
def clsK(h:Ji)(K:Frag)(k:Kinds):Bool:=match k.cl with
 |some c=>(b6 K "Bounds").any (clsB h K c)
 |none=>Jc
noncomputable def cP:Fn:=⟨"Bounds.greatest",["self","place","enough"],["counts","goal","came","raised","lowered","start","amount"],
 [.assign (.name "counts") (.bi (.dict ()) [.attr "self" "counts"]),
  .assign (.name "goal") (.tup [.glob "ROW",.sub (.loc "place") (.int 0)]),
  .while_ (.bool Jc) [.assign (.name "came") (.call "reached" [.attr "self" "near",.loc "counts",.list [.tup [.glob "COLUMN",.sub (.loc "place") (.int 1)]],.loc "place"]),.if_ (.or_ (.cmp .nin (.loc "goal") (.loc "came")) (.and_ (.notNone (.loc "enough")) (.cmp .ge (.sub (.loc "counts") (.loc "place")) (.loc "enough")))) [.ret (.tup [.loc "counts",.loc "came"])] [],.assign (.tup ["raised","lowered","start"]) (.call "way_to" [.loc "came",.loc "goal"]),.assign (.name "amount") (.bi .min [.comp (.sub (.loc "counts") (.loc "other")) (.name "other") .val [.loc "lowered"]]),.expr (.call "move" [.loc "counts",.bin .add (.loc "raised") (.list [.loc "place"]),.loc "lowered",.loc "amount"])]]⟩
noncomputable def dF:Fn:=⟨"Bounds.least",["self","place","enough"],["counts","goal","came","raised","lowered","start","amount"],
 [.assign (.name "counts") (.bi (.dict ()) [.attr "self" "counts"]),
  .assign (.name "goal") (.tup [.glob "COLUMN",.sub (.loc "place") (.int 1)]),
  .while_ (.bool Jc) [.assign (.name "came") (.call "reached" [.attr "self" "near",.loc "counts",.list [.tup [.glob "ROW",.sub (.loc "place") (.int 0)]],.loc "place"]),.if_ (.or_ (.cmp .nin (.loc "goal") (.loc "came")) (.or_ (.cmp .eq (.sub (.loc "counts") (.loc "place")) (.int 0)) (.and_ (.notNone (.loc "enough")) (.cmp .le (.sub (.loc "counts") (.loc "place")) (.loc "enough"))))) [.ret (.tup [.loc "counts",.loc "came"])] [],.assign (.tup ["raised","lowered","start"]) (.call "way_to" [.loc "came",.loc "goal"]),.assign (.name "amount") (.bi .min [.comp (.sub (.loc "counts") (.loc "other")) (.name "other") .val [.bin .add (.loc "lowered") (.list [.loc "place"])]]),.expr (.call "move" [.loc "counts",.loc "raised",.bin .add (.loc "lowered") (.list [.loc "place"]),.loc "amount"])]]⟩
noncomputable def ca:Fn:=⟨"Bounds.is_given_away",["self","place","width"],["here","high"],
 [.assign (.name "here") (.sub (.attr "self" "counts") (.loc "place")),
  .assign (.name "high") (.sub (.sub (.mcall "Bounds.greatest" (.loc "self") [.loc "place",.bin .add (.loc "here") (.loc "width")])<|.int 0)<|.loc "place"),
  .if_ (.cmp .ge (.bin .sub (.loc "high")<|.loc "here")<|.loc "width") [.ret (.bool Jd)] [],
  .ret (.cmp .lt (.bin .sub (.loc "high") (.sub (.sub (.mcall "Bounds.least" (.loc "self") [.loc "place",.bin .sub (.loc "high") (.loc "width")]) (.int 0)) (.loc "place"))) (.loc "width"))]⟩
noncomputable def f_Bounds_walls:Fn:=⟨"Bounds.walls",["self","place","many_rows","many_columns"],["counts","came","low","rows","columns"],
 [.assign (.tup ["counts","came"]) (.mcall "Bounds.least" (.loc "self") [.loc "place",.none]),
  .assign (.name "low") (.tup [.int 0,.list [],.list []]),
  .if_ (.cmp (.gt ()) (.sub (.loc "counts")<|.loc "place")<|.int 0) [.assign (.name "low") (.tup [.sub (.loc "counts") (.loc "place"),.call "numbers_of" [.loc "came",.glob "ROW"],.call "numbers_of" [.loc "came",.glob "COLUMN"]])] [],
  .assign (.tup ["counts","came"]) (.mcall "Bounds.greatest" (.loc "self") [.loc "place",.none]),
  .assign (.name "rows") (.compIf (.loc "row") (.name "row") .range [.loc "many_rows"] (.cmp .nin (.tup [.glob "ROW",.loc "row"])<|.loc "came")),
  .assign (.name "columns") (.compIf (.loc "column") (.name "column") .range [.loc "many_columns"] (.cmp .nin (.tup [.glob "COLUMN",.loc "column"])<|.loc "came")),
  .ret (.tup [.loc "low",.tup [.sub (.loc "counts") (.loc "place"),.loc "rows",.loc "columns"]])]⟩
def cls8:Cls:=⟨"counts","counts","near",.loc "counts",.call "near_of" [.bi .list [.loc "counts"]],[cP,dF,ca,f_Bounds_walls]⟩
def kinds7:Kinds:=⟨["VeilError","BadView","BadPlace","BadNumber","NoTable"],["BadView","BadPlace","BadNumber"],["NoTable"],λc=>cond (c=="NoTable") ["rows","columns"] (cond (c=="Bounds") ["counts","near"] []),λc d=>c==d||d=="VeilError"||d=="ValueError",Ja cls8⟩
noncomputable def jN(tb:String->Option Builtin)(p:Jn)(w:Jm)(n₀:Nat)(ann:Option Jf):Nat->SharedT->Thread->Option SharedT
 |0,_,_=>Jb
 |n+1,s,t=>cond (through t) (Ja s) (cond (stepOk n₀ ann t) ((stepT (denote tb) p w s t).bind λq=>jN tb p w n₀ ann n q.1 q.2) Jb)
noncomputable def lZ:List Jp->BT->Nat->Option BT
 |[],t,_=>Ja t
 |o::os,t,n=>cond ((t.ins n o).get n).isSome (lZ os (t.ins n o)<|n+1) Jb
def toT(s:Je):Option SharedT:=(lZ s.heap.objs.toList .nil 0).map λt=>⟨t,s.heap.objs.size,s.heap.life,s.gens,s.drawn,s.toks,s.os⟩
def iM(tb:String->Option Builtin)(p:Jn)(w:Jm)(N:Nat)(s₀:Je):Option Je:=
 match s₀.heap.isNs JA&&s₀.gens.size==0 with
 |true=>((toT s₀).bind λsT=>jN tb p w s₀.heap.objs.size (s₀.heap.nsMap JA "__annotations__") N sT (topStub p)).bind λs₁=>match staticsOk (importedModules p.main.body) s₀.heap s₁.abs.heap&&namesBound p s₁.abs.heap&&gensDone s₁.abs&&laidKept s₀.heap s₁.abs.heap with
   |true=>Ja s₁.abs
   |false=>Jb
 |false=>Jb
noncomputable def uv:Jo->Bool
 | .Assign [.Name n _] _ _=> !(n==Qb "__name__")
 |_=>Jc
def view7:Jn:={PySem.Challenge.rw_uf010011_09.prog with main:={PySem.Challenge.rw_uf010011_09.prog.main with body:=PySem.Challenge.rw_uf010011_09.prog.main.body.filter uv}}
def obsE(k:Kinds)(s:Je):Bool:=jT (kFrag s.heap k) k&&xH s.heap (kFrag s.heap k) k&&clsK s.heap (kFrag s.heap k) k
theorem hl8(w:Jm):Wx (λs=>(openSeen view7 [] (importedModules PySem.Challenge.rw_uf010011_09.row.prog.main.body) (λs=>recOk (RowW.records (OpenRow.toRowW (OpenLaw.row PySem.Challenge.rw_uf010011_09))) s) Jc s,obsE kinds7 s)) ((fencedOpening Y1 PySem.Challenge.rw_uf010011_09.row.prog w 16000).bind (iM Y1 PySem.Challenge.rw_uf010011_09.row.prog w 16000))=Ja (openGood view7 [],Jc):=by kernel_rfl
end
noncomputable abbrev Mo(C:Cx):Model:=Jt C.prog C.w
def Kp(C:Cx)(v:Jf):Prop:=∃k,(k=Keeper.frame\/k=Keeper.machine\/k=Keeper.boundFrame)/\W.Looks (Mo C) C.B (keeperOf v) k
noncomputable def bltNames:List String:=["len","all","any","sum","abs","int","list","tuple","dict","isinstance","range","bool","min","sorted","zip","max"]
structure GOK(C:Cx)(G:Gx)(mg mb:Jq->Option Jf):Prop where
 g:C.B.Ns JA mg
 b:C.B.Ns builtinsNs mb
 nolimit:C.B.NoLimit
 blt:∀x∈bltNames,
  mg (Qb x)=Jb/\mb (Qb x)=YX (Qb x)
 glob:∀x p,G.glob x=Ja p->∃v,mg (Qb x)=Ja v/\∀σ h,VR C σ h p v
 full:G.full=Jc->C.ok
 calm:G.calm=Jc->C.calm
 fv:∀f v,bQ f=Jc->C.fv f=Ja v->mg (Qb f)=Ja v
 fn:∀f,G.fn f=Jc->∃v,C.fv f=Ja v/\Kp C v
def aO(C:Cx)(n:Nat):Cl:=λf args σ Q X=>
 ∃v,C.fv f=Ja v/\Kp C v/\∀ (A:Jj) (l:List Js) (s:Je) (w:List Jf),AOK C n A l σ s.heap->Sim C σ s.heap->VRs C σ s.heap args w->
  Jh (Mo C) A (call v w) (VP C none1 σ s Q) (XP C none1 σ s X) s
section
variable{C:Cx}{A:Jj}{Er:Jf->Je->Prop}{σ:PH}{s:Je}
theorem VP.to{S:Jg->Prop}{R:Jf->Je->Prop}{E:Jf->Je->Prop}(h:Jh (Mo C) A t (VP C S σ s Q) E s)
  (k:∀v W p σ1,VR C σ1 W.heap p v->Sim C σ1 W.heap->Step S σ s.heap σ1 W.heap->Rest s W->Q p σ1->R v W)(m:∀e W,E e W->Er e W):Jh (Mo C) A t R Er s:=
 YI h (λv W z=>by obtain⟨p,σ1,a,b,c,d,e⟩:=z;exact k v W p σ1 a b c d e) m
theorem VP.here{S:Jg->Prop}{s':Je}(m:Sim C σ s.heap)(h:s'.heap=s.heap)(r:Rest s s')(hv:VR C σ s.heap p v)(q:Q p σ):VP C S σ s Q v s':=
 ⟨p,σ,by rw[h];exact hv,by rw[h];exact m,by rw[h];exact .refl _ _ _,r,q⟩
end
section
variable{C:Cx}{G:Gx}{mg mb:Jq->Option Jf}{A:Jj}{Er:Jf->Je->Prop}{env:Js}{ρ:Rho}{σ:PH}{s:Je}
theorem lh{sc:Jk}(h:isLoc sc y=Jc):sc.names.lookup y=Ja .local\/sc.names.lookup y=Ja .cell\/sc.names.lookup y=Ja .free:=by
 simp only[isLoc,Yy,beq_iff_eq] at h
 rcases h with(h|h)|h
 ·exact .inl h
 ·exact .inr<|.inl h
 ·exact .inr<|.inr h
theorem ke{Q:Jf->Je->Prop}(e:EnvR C env ρ σ s.heap)(l:isLoc env.scope (Qb x)=Jc)(d:bu (Qb x)=Jc)(hx:ρ.get x=Ja p)
  (h:∀v,VR C σ s.heap p v->Q v s):Jh (Mo C) A (Jw (.Name (Qb x) pos) env) Q Er s:=by
 simp only[bu,QZ,Ka] at d;refine J4 ?_ d.1
 rcases lh l with k|k|k
 ·obtain⟨m,n,hv⟩:=e.ns;obtain⟨v,T,w⟩:=hv x p hx k;exact YR e.fn k n T<|h v w
 ·obtain⟨c,v,T,w,X⟩:=e.cell x p hx<|.inl k;exact wpAny_loadName_cell e.fn k T w<|h v X
 ·obtain⟨c,v,T,w,X⟩:=e.cell x p hx<|.inr k;exact wpAny_loadName_free e.fn k T w (h v X) d.2
theorem hS{env:Js}(h:env.scope.kind= .function)(hx:env.kindOf x=Ja .globalImplicit):loadName env x=loadGlobal env x:=by
 unfold loadName;dsimp only[Env.blockKind];rw[h,hx];rfl
theorem jP{sc:Jk}(h:glb sc x e=Jc):∃pos,e= .Name (Qb x) pos/\sc.names.lookup (Qb x)=Ja .globalImplicit/\bu (Qb x)=Jc:=by
 induction e using Expr.casesOn with
 |Name y p=>
  obtain⟨h1,h3⟩:=Qg.mp (show(Vl.Internal.nm y x&&lV sc y&&bu y)=Jc from h);obtain⟨h1,h2⟩:=Qg.mp h1;have h1:y=Qb x:=Y9 h1;subst h1;exact⟨_,rfl,Y9 h2,h3⟩
 |_=>exact bnx h
theorem gV{Q:Jf->Je->Prop}(g:GOK C G mg mb)(e:EnvR C env ρ σ s.heap)(m:Sim C σ s.heap)
  (l:env.scope.names.lookup (Qb x)=Ja .globalImplicit)(d:bu (Qb x)=Jc)(hx:mg (Qb x)=Ja v)(h:Q v s):
  Jh (Mo C) A (Jw (.Name (Qb x) pos) env) Q Er s:=by
 simp only[bu,QZ,Ka] at d;refine J4 ?_ d.1;rw[hS e.fn l];refine Calls.loadGlobal_global ?_ hx h;rw[e.glob];exact g.g.keeps m.base
theorem fQ{Q:Jf->Je->Prop}(g:GOK C G mg mb)(e:EnvR C env ρ σ s.heap)(m:Sim C σ s.heap)
  (l:env.scope.names.lookup (Qb x)=Ja .globalImplicit)(d:bu (Qb x)=Jc)
  (L:x∈bltNames)
  (hx:YX (Qb x)=Ja v)(h:Q v s):
  Jh (Mo C) A (Jw (.Name (Qb x) pos) env) Q Er s:=by
 simp only[bu,QZ,Ka] at d;refine J4 ?_ d.1;rw[hS e.fn l];obtain⟨T,w⟩:=g.blt x L;refine Calls.loadGlobal_builtin (v:=v) ?_ T ?_ (w.trans hx) h
 ·rw[e.glob];exact g.g.keeps m.base
 ·rw[e.blt];exact g.b.keeps m.base
end
section
variable{C:Cx}{σ:PH}{h h':Ji}
theorem Sim.lt(m:Sim C σ h)(e:σ a=Ja o):a<h.objs.size:=by obtain⟨o0,d,o0⟩:=m.objs a o e;exact QS d
theorem Sim.fresh(m:Sim C σ h)(e:h.objs.size<=a):σ a=Jb:=by
 induction q:σ a with
 |none=>rfl
 |some o=>exact absurd (m.lt q)<|QT.mpr e
theorem Sim.freshB(m:Sim C σ h)(e:h.objs.size<=a):C.B.get? a=Jb:=by
 induction q:C.B.get? a with
 |none=>rfl
 |some o=>exact absurd (QS<|m.base a o q)<|QT.mpr e
theorem Step.more{S:Jg->Prop}(k:∀b o,h.get? b=Ja o->h'.get? b=Ja o):Step S σ h σ h':=
 ⟨λb o e s=>⟨s,o,k b o e,λo0=> .refl o⟩,λb o e=>⟨o,e⟩,λo0 o0 e o0=>e,λb e=>by
  induction q:h.get? b with
  |none=>rfl
  |some o=>exact sn ((k b o q).symm.trans e)⟩
theorem Step.push(S:Jg->Prop)(σ:PH)(h:Ji)(W:Jp):Step S σ h σ (h.push W):= .more (λb o e=>Qm W e)
theorem Step.old{S:Jg->Prop}{h₀:Ji}(st:Step S B h₀ σ h)(m:Sim C σ h)(e:h.get? a=Jb):h₀.get? a=Jb:=by
 induction q:h₀.get? a with
 |none=>rfl
 |some o=>
  induction w:B a with
  |none=>obtain⟨o0,i,g,o0⟩:=st.keep a o q w;exact ns<|e.symm.trans g
  |some p=>obtain⟨Y,g⟩:=st.grow a p w;obtain⟨b,d,_⟩:=m.objs a Y g;exact ns<|e.symm.trans d
theorem Sim.step{S:Jg->Prop}(m:Sim C σ h)(st:Step S σ h σ h')(k:∀a o,σ a=Ja o->h'.get? a=h.get? a)(P:∀b o,C.B.get? b=Ja o->h'.get? b=Ja o):Sim C σ h' where
 base:=P
 new:=m.new
 objs:=λa o e=>by obtain⟨W,N,p⟩:=m.objs a o e;exact⟨W,(k a o e).trans N,p.step st⟩
 rich:=m.rich
theorem Sim.more(m:Sim C σ h)(k:∀b o,h.get? b=Ja o->h'.get? b=Ja o):Sim C σ h':=
 m.step (S:=none1) (.more k) (λa o e=>by obtain⟨W,N,o0⟩:=m.objs a o e;exact(k _ _ N).trans N.symm) λb o e=>k b o<|m.base b o e
theorem Sim.push(m:Sim C σ h)(W:Jp):Sim C σ (h.push W):=m.more (λb o e=>Qm W e)
theorem Sim.add{S:Jg->Prop}(m:Sim C σ h){o:PO}(st:Step S σ h (σ.set a o) h')(k:∀x o',σ x=Ja o'->h'.get? x=h.get? x)(M:∀b o,C.B.get? b=Ja o->h'.get? b=Ja o)
  (e:h'.get? a=Ja W)(b:C.B.get? a=Jb)(r:OR C (σ.set a o) h' o W)(n:o.needs C.ok a):Sim C (σ.set a o) h' where
 rich:=λx o' g=>by
  by_cases q:x=a
  ·subst q;rw[PH.set_same] at g;obtain rfl:=sj g;exact n
  ·rw[PH.set_ne _ _ q] at g;exact m.rich x o' g
 base:=M
 new:=λx o' g=>by
  by_cases q:x=a
  ·subst q;exact b
  ·rw[PH.set_ne _ _ q] at g;exact m.new x o' g
 objs:=λx o' g=>by
  by_cases q:x=a
  ·subst q;rw[PH.set_same] at g;obtain rfl:=sj g;exact⟨W,e,r⟩
  ·rw[PH.set_ne _ _ q] at g;obtain⟨P,N,p⟩:=m.objs x o' g;exact⟨P,(k x o' g).trans N,p.step st⟩
theorem Step.add{S:Jg->Prop}{h₀:Ji}(st:Step S B h₀ σ h)(o:PO)(f:h₀.get? a=Jb)(f':B a=Jb):Step S B h₀ (σ.set a o) h where
 keep:=λb W e s=>by
  obtain⟨x,i,y,z⟩:=st.keep b W e s;refine⟨?_,i,y,z⟩;rw[PH.set_ne]
  ·exact x
  ·rintro rfl;exact ns<|f.symm.trans e
 grow:=λb W e=>by
  obtain⟨i,g⟩:=st.grow b W e;by_cases q:b=a
  ·subst q;exact⟨o,PH.set_same _ _ _⟩
  ·exact⟨i,by rw[PH.set_ne _ _ q];exact g⟩
 fix:=λb o e q=>by
  rw[PH.set_ne]
  ·exact st.fix b o e q
  ·rintro rfl;exact ns<|f'.symm.trans e
 live:=st.live
theorem Sim.upd{S:Jg->Prop}(m:Sim C σ h){o o':PO}(T:σ a=Ja o)(U:o.fixed=Jd)(f:KR a h h')(e:h'.get? a=Ja l)(r:OR C σ h o' l)(n:o'.needs C.ok a:=by trivial):
  Sim C (σ.set a o') h'/\Step S σ h (σ.set a o') h':=by
 have t:Step S σ h (σ.set a o') h':=⟨λb W q s=>by
   have R:b≠a:=by rintro rfl;exact sn<|T.symm.trans s
   exact⟨by rw[PH.set_ne _ _ R];exact s,W,(f.2 b R).trans q,λo0=> .refl W⟩,
  λb W q=>by
   by_cases R:b=a
   ·subst R;exact⟨o',PH.set_same _ _ _⟩
   ·exact⟨W,by rw[PH.set_ne _ _ R];exact q⟩,
  λb W q w=>by
   have R:b≠a:=by rintro rfl;obtain rfl:=sj<|T.symm.trans q;exact ft<|U.symm.trans w
   rw[PH.set_ne _ _ R];exact q,
  λb q=>by
   by_cases R:b=a
   ·subst R;exact sn<|e.symm.trans q
   ·rw[<-f.2 b R];exact q⟩
 refine⟨⟨λb W q=> ?_,λx W q=> ?_,λx W q=> ?_,λx W q=> ?_⟩,t⟩
 ·have R:b≠a:=by rintro rfl;have:=m.new _ _ T;exact sn (q.symm.trans this)
  exact(f.2 b R).trans (m.base b W q)
 ·by_cases hx:x=a
  ·subst hx;exact m.new _ _ T
  ·rw[PH.set_ne _ _ hx] at q;exact m.new x W q
 ·by_cases hx:x=a
  ·subst hx;rw[PH.set_same] at q;obtain rfl:=sj q;exact⟨l,e,r.step t⟩
  ·rw[PH.set_ne _ _ hx] at q;obtain⟨P,N,p⟩:=m.objs x W q;exact⟨P,(f.2 x hx).trans N,p.step t⟩
 ·by_cases hx:x=a
  ·subst hx;rw[PH.set_same] at q;obtain rfl:=sj q;exact n
  ·rw[PH.set_ne _ _ hx] at q;exact m.rich x W q
end
section
variable{C:Cx}{A:Jj}{Er:Jf->Je->Prop}{σ:PH}{s:Je}
theorem VP.alloc{S:Jg->Prop}{o:PO}{W:Jp}{s':Je}(m:Sim C σ s.heap)(U:s'.heap=s.heap.push W)(r:Rest s s')(f:W.isFreed=Jd)(n:OR C σ s.heap o W)(q:wnew o σ Q)(d:o.needs C.ok s.heap.objs.size:=by trivial):
  VP C S σ s Q (.ref s.heap.objs.size) s':=by
 have t:Step S σ s.heap (σ.set s.heap.objs.size o) (s.heap.push W):=(Step.push S σ s.heap W).add o (by
  induction e:s.heap.get? s.heap.objs.size with
  |none=>rfl
  |some x=>exact absurd (QS e) (KG _)) (m.fresh (Qz _))
 refine⟨.ref s.heap.objs.size,σ.set s.heap.objs.size o,rfl,?_,?_,r,q _<|m.fresh (Qz _)⟩
 ·rw[U];exact m.add t (λx i e=>by obtain⟨P,N,o0⟩:=m.objs x i e;exact(Qm _ N).trans N.symm) (λb o e=>Qm _<|m.base b o e) (QL _ f) (m.freshB<|Qz _) (n.step t) d
 ·rw[U];exact t
theorem VP.allocTup{S:Jg->Prop}{vs:Array Jf}{s':Je}(m:Sim C σ s.heap)(U:s'.heap=s.heap.push (tupO vs n))(r:Rest s s')(T:VRs C σ s.heap l vs.toList)(q:Q (.tup l) σ):
  VP C S σ s Q (.ref s.heap.objs.size) s':=by
 have N:=m.push<|tupO vs n;have t:=Step.push S σ s.heap<|tupO vs n;refine⟨.tup l,σ,?_,by rw[U];exact N,by rw[U];exact t,r,q⟩;rw[U];exact⟨_,n,vs,rfl,m.fresh<|Qz _,QL _ rfl,T.step t⟩
theorem VRs.append:∀ {l m:List PV} {vs ws:List Jf},VRs C σ h l vs->VRs C σ h m ws->VRs C σ h (l++m) (vs++ws)
 |[],m,vs,ws,a,b=>by change _=_ at a;subst a;exact b
 |p::l,m,vs,ws,a,b=>by
  obtain⟨v,r,rfl,N,Y⟩:=a;exact⟨v,r++ws,rfl,N,VRs.append Y b⟩
theorem VRs.length:∀ {l:List PV} {vs:List Jf},VRs C σ h l vs->vs.length=l.length
 |[]=>λa=>by change _=_ at a;subst a;rfl
 |p::l=>λa=>by
  obtain⟨v,r,rfl,N,Y⟩:=a;simp[VRs.length Y]
theorem VRs.get:∀ {l:List PV} {vs:List Jf},VRs C σ h l vs->∀ (i:Nat) (p:PV),l[i]? =Ja p->∃v,vs[i]? =Ja v/\VR C σ h p v
 |[]=>λa i p e=>by simp at e
 |q::l=>λa i p e=>by
  obtain⟨v,r,rfl,N,Y⟩:=a
  induction i using Nat.casesOn with
  |zero=>simp at e;subst e;exact⟨v,rfl,N⟩
  |succ j=>simp at e;simpa using VRs.get Y j p e
theorem VRs.of_get:∀ {l:List PV} {vs:List Jf},vs.length=l.length->(∀ (i:Nat) (p:PV) (v:Jf),l[i]? =Ja p->vs[i]? =Ja v->VR C σ h p v)->VRs C σ h l vs
 |[],vs=>λa e=>Yk.mp a
 |q::l,[]=>λa e=>by simp at a
 |q::l,v::r=>λa e=>by
  refine⟨v,r,rfl,e 0 q v rfl rfl,VRs.of_get (by simpa using a) λi p w N Y=>e (i+1) p w (by simpa using N)<|by simpa using Y⟩
theorem VRs.set{l:List PV}{vs:List Jf}(x:VRs C σ h l vs)(i:Nat)(r:VR C σ h p v):VRs C σ h (l.set i p) (vs.set i v):=by
 have T:=x.length;refine VRs.of_get (by simp[T]) λj q w N Y=> ?_;rw[Ws] at N Y;by_cases D:i=j
 ·subst D;rw[Y8 rfl] at N Y
  split at N<;>split at Y<;>simp_all
 ·rw[Y7 D] at N Y;obtain⟨m,L,e⟩:=x.get j q N;obtain rfl:=sj<|Y.symm.trans L;exact e
theorem VRs.take{l:List PV}{vs:List Jf}(x:VRs C σ h l vs)(i:Nat):VRs C σ h (l.take i) (vs.take i):=by
 have T:=x.length;refine VRs.of_get (by simp[T]) λj q w N p=> ?_;rw[List.getElem?_take] at N p
 split at N
 ·rw[Y8 (by assumption)] at p;obtain⟨m,L,e⟩:=x.get j q N;obtain rfl:=sj<|p.symm.trans L;exact e
 ·exact ns N
theorem VRs.drop{l:List PV}{vs:List Jf}(x:VRs C σ h l vs)(i:Nat):VRs C σ h (l.drop i) (vs.drop i):=by
 have T:=x.length;refine VRs.of_get (by simp[T]) λj q w N p=> ?_;rw[List.getElem?_drop] at N p;obtain⟨m,L,e⟩:=x.get _ q N;obtain rfl:=sj<|p.symm.trans L;exact e
end
section
variable{C:Cx}{A:Jj}{Er:Jf->Je->Prop}{σ:PH}{s:Je}{Q:Post}{n:Nat}{fr:List Js}
theorem cX(t:Tok):VR C σ h (.int i) (.int i t):=⟨t,rfl⟩
theorem fg:VR C σ h (.bool b) (.bool b):=rfl
theorem ma:VR C σ h .none .none:=rfl
inductive LstAt(C:Cx)(σ:PH)(h:Ji)(a:Jg)(l:List PV):Prop
 |mk (vs:Array Jf) (n:Nat) (e:h.get? a=Ja (lstO vs n)) (r:VRs C σ h l vs.toList):LstAt C σ h a l
theorem Sim.list(m:Sim C σ h)(e:σ a=Ja (.list l)):LstAt C σ h a l:=by
 obtain⟨o,N,v,n,rfl,p⟩:=m.objs a _ e;exact⟨v,n,N,p⟩
theorem hP{z:Int}(hz:z.natAbs<2^64):Builtin.Int.intBits z<=64:=by
 unfold Builtin.Int.intBits
 split
 ·exact QN _
 ·rename_i h
  have:z.natAbs≠0:=by simpa using h
  exact(Nat.log2_lt this).mpr hz
theorem ml{vs:Array Jf}(h:vs.toList.length=n):vs.size=n:=h
theorem uT(m:Sim C σ s.heap)(T:σ x=Ja (.list l))(e:σ y=Ja (.list k))(w:wlist (l++k) σ Q):Jh (Mo C) A (binaryOp .Add (.ref x) (.ref y)) (VP C none1 σ s Q) Er s:=by
 obtain⟨W,Y,N,r⟩:=m.list T;obtain⟨v,I,h,M⟩:=m.list e;have p:=ml r.length;have K:=ml M.length;have z:l.length+k.length<=1000000:=by rw[<-QD];exact w.1
 exact P.add_list N h (VP.alloc (o:= .list (l++k)) m rfl ⟨rfl,rfl⟩ rfl ⟨_,_,rfl,by rw[Array.toList_append];exact r.append M⟩ w.2)<|by rw[p,K];exact Qq z<|by decide
theorem xa(d:mOp p o=Jc)(m:Sim C σ s.heap)(Z:VR C σ s.heap a M)(r:VR C σ s.heap b v)(w:wbin p a b σ Q):
  Jh (Mo C) A (binaryOp o M v) (VP C none1 σ s Q) Er s:=by
 cases (Y6 d);have two:∀ {K:Int->Int->Prop} {o:Operator},onInt (λx=>onInt (λy=>K x y) b) a->(∀x y t u,K x y->Jh (Mo C) A (binaryOp o (.int x t)<|.int y u) (VP C none1 σ s Q) Er s)->Jh (Mo C) A (binaryOp o M v) (VP C none1 σ s Q) Er s:=λw k=>by
  obtain⟨x,e,w⟩:=cf w;obtain⟨y,g,w⟩:=cf w;subst e g;obtain⟨t,rfl⟩:=Z;obtain⟨u,rfl⟩:=r;exact k x y t u w
 induction p with
 |add=>
  induction a using PV.casesOn with
  |int x=>
   obtain⟨y,rfl,w⟩:=cf w;obtain⟨t,rfl⟩:=Z;obtain⟨u,rfl⟩:=r;exact P.add_int<|VP.here m rfl ⟨rfl,rfl⟩ (cX _) w
  |ref x=>
   obtain⟨o0,l,e,T,w⟩:=gP (show onL σ (λl=>onL σ (λm=>wlist (l++m) σ Q) b) (.ref x) from w);cases e;obtain⟨y,k,rfl,F,j⟩:=gP w;rw[show M= .ref x from Z,show v= .ref y from r];exact uT m T F j
  |_=>exact w.elim
 |mul=>exact two w λx y t u w=>P.mul_int (VP.here m rfl ⟨rfl,rfl⟩ (cX _) w.2) (w.1.elim (λh=>IntMulOk.of_left (hP h)) λh=>IntMulOk.of_right (hP h))
 |sub=>exact two w λx y t u w=>P.sub_int<|VP.here m rfl ⟨rfl,rfl⟩ (cX _) w
 |fdiv=>exact two w λx y t u w=>PyProof.Rows.floordiv_int w.1 (VP.here m rfl ⟨rfl,rfl⟩ (cX _) w.2.2)<|.inl (PyProof.noPylong_small w.2.1)
 |mod=>exact two w λx y t u w=>PyProof.Rows.mod_int' w.1<|VP.here m rfl ⟨rfl,rfl⟩ (cX _) w.2
 |pow=>exact two w λx y t u w=>PyProof.Rows.pow_int_small w.1 (by have:=w.2.1;exact QE w.2.1 (by decide)) w.2.2.1 (VP.here m rfl ⟨rfl,rfl⟩ (cX _) w.2.2.2)
end
section
open PyProof.Rows
section
variable{C:Cx}{A:Jj}{Er:Jf->Je->Prop}{σ:PH}{s:Je}{h:Ji}
abbrev XS:=List<|List KA×Jg×Jf
structure DAt(C:Cx)(σ:PH)(h:Ji)(a:Jg)(ks:List (List KA))(l:List PV)(xs:XS):Prop where
 of:h.DictOfH (tk C.prog C.w) a xs
 ks:xs.map (·.1)=ks
 ka:∀y∈xs,KeyAt C σ h y.1 y.2.1
 v:VRs C σ h l (xs.map (·.2.2))
 sys:(a==JC)=Jd
theorem KeyAt.is(x:KeyAt C σ h k a):(tk C.prog C.w).is h k a:=by obtain⟨o0,v,m,g,i⟩:=x;exact⟨_,v,m,g,rfl,rfl,i⟩
theorem Sim.dict(m:Sim C σ h)(e:σ a=Ja (.dict ks l)):∃xs,DAt C σ h a ks l xs:=by
 obtain⟨o,g,U,p,xs,x,d,T,k,nd,E,v⟩:=m.objs a _ e;exact⟨xs,⟨o,U,p,g,x,d,T,λy W=>(E y W).is,k▸nd⟩,k,E,v,beq_eq_false_iff_ne.mpr<|m.rich a _ e⟩
theorem m7:∀ {l:List PV} {vs:List Jf} {k:List KA},kasOf l=Ja k->VRs C σ h l vs->ItemsAre (mk C.prog C.w) k vs
 |[],vs,k,e,r=>by change _=_ at r;subst r;obtain rfl:=sj e;exact .nil
 |p::l,vs,k,e,r=>by
  obtain⟨v,U,rfl,f,M⟩:=r;obtain⟨a,T,e⟩:=Qn.mp (show((kaOf p).bind λk=>(kasOf l).map (k:: ·))=Ja k from e);obtain⟨r,w,e⟩:=Qs.mp e;subst e;refine .cons ?_<|m7 w M
  induction p using PV.casesOn with
  |int i=>obtain rfl:=sj T;obtain⟨t,rfl⟩:=f;exact tS i t
  |str i=>obtain rfl:=sj T;obtain⟨t,rfl⟩:=f;exact sC i t
  |_=>first|exact onx T|cases T
theorem jZ(e:keyOf p=Ja k)(r:VR C σ h p v):∃b,v= .ref b/\KeyAt C σ h k b:=by
 induction p using PV.casesOn with
 |tup l=>
  obtain⟨a,n,J,T,w,X,u⟩:=r;exact⟨a,T,w,J,n,X,m7 e u⟩
 |_=>first|exact onx e|cases e
theorem jR:∀ {xs:XS},YV xs k=(kidx (xs.map (·.1)) k).bind λj=>xs[j]?.map (·.2)
 |[]=>rfl
 |x::xs=>by
  have i:=jR (k:=k) (xs:=xs);show((x::xs).find? λy=>decide<|y.1=k).map (·.2)=(if x.1=k then Ja 0 else(kidx (xs.map (·.1)) k).map (· +1)).bind λj=>(x::xs)[j]?.map (·.2);by_cases q:x.1=k
  ·rw[Y8 q,List.find?_cons,Y4 q];rfl
  ·rw[Y7 q,List.find?_cons,Y5 q];show YV xs k=_;rw[i];cases kidx (xs.map (·.1)) k<;>rfl
theorem lG:∀ {ks:List (List KA)} {j:Nat},kidx ks k=Ja j->j<ks.length/\ks[j]? =Ja k
 |[],j,e=>by exact ns e
 |x::ks,j,e=>by
  replace e:(if x=k then Ja 0 else(kidx ks k).map (· +1))=Ja j:=e;by_cases q:x=k
  ·obtain rfl:=sj<|(Y8 q).symm.trans e;exact⟨YC _,by rw[q];rfl⟩
  ·rw[Y7 q] at e;obtain⟨i,T,rfl⟩:=Qs.mp e;obtain⟨N,p⟩:=lG T;exact⟨WR N,p⟩
theorem DAt.look{a:Jg}{ks:List (List KA)}{l:List PV}{xs:XS}(d:DAt C σ h a ks l xs){k:List KA}:
  (klook ks l k=Jb/\YV xs k=Jb)\/X2 λp q=>A3 (klook ks l k=Ja p) (YV xs k=Ja q) (VR C σ h p q.2):=by
 rw[jR,d.ks];unfold klook
 induction e:kidx ks k with
 |none=>exact .inl ⟨rfl,rfl⟩
 |some j=>
  have H:=(lG e).1;have T:=d.v.length;rw[Qd] at T;have M:xs.length=ks.length:=by rw[<-d.ks,Qd]
  have N:j<xs.length:=by exact zq H M.symm
  have Y:j<l.length:=by exact zq H<|M.symm.trans T
  obtain⟨v,L,w⟩:=d.v.get j l[j] (Qf Y);refine .inr ⟨l[j],xs[j].2,Qf Y,by show xs[j]?.map (·.2)=_;rw[Qf N];rfl,?_⟩;rw[Qu,Qf N] at L;obtain rfl:=sj L;exact w
theorem DAt.some_{a:Jg}{ks:List (List KA)}{l:List PV}{xs:XS}(d:DAt C σ h a ks l xs){k:List KA}:(kidx ks k).isSome=(YV xs k).isSome:=by
 rw[jR,d.ks]
 induction e:kidx ks k with
 |none=>rfl
 |some j=>
  have H:=(lG e).1;have q:xs.length=ks.length:=by rw[<-d.ks,Qd]
  show Jc=(xs[j]?.map (·.2)).isSome;rw[Qf (by exact zq H q.symm)];rfl
theorem gZ(u:A.units+100<cLine):(tk C.prog C.w).room A.in1:=by show A.units+1<cLine;exact zl (KH (by decide) _) u
theorem pH(k:List KA)(v:Jf):∀ {xs:XS} {j:Nat},kidx (xs.map (·.1)) k=Ja j->(xs.map (·.1)).Nodup->(xs.map (putAt k v)).map (·.2.2)=(xs.map (·.2.2)).set j v
 |[],j,e,_=>by exact ns e
 |x::xs,j,e,nd=>by
  replace e:(if x.1=k then Ja 0 else(kidx (xs.map (·.1)) k).map (· +1))=Ja j:=e;rw[Qw,QA] at nd;by_cases q:x.1=k
  ·obtain rfl:=sj<|(Y8 q).symm.trans e;rw[Qw,map_putAt_of_not_mem xs k v (q▸nd.1)];show(putAt k v x).2.2::_=v::_;rw[putAt,Y8 q]
  ·rw[Y7 q] at e;obtain⟨i,T,rfl⟩:=Qs.mp e;rw[Qw];show(putAt k v x).2.2::(xs.map<|putAt k v).map (·.2.2)=x.2.2::(xs.map (·.2.2)).set i v;rw[pH k v T nd.2,putAt,Y7 q]
theorem DAt.dict_data{a:Jg}{ks:List (List KA)}{l:List PV}{xs:XS}(d:DAt C σ h a ks l xs):X3 λo es ep=>h.get? a=Ja o/\o.data= .dict es ep:=by obtain⟨o,es,ep,g,o0,q,o0⟩:=d.of;exact⟨o,es,ep,g,q⟩
theorem DAt.set{a b:Jg}{ks:List (List KA)}{l:List PV}{xs:XS}{k:List KA}{p:PV}{v:Jf}{S:Ji}(m:Sim C σ h)(e:σ a=Ja (.dict ks l))(d:DAt C σ h a ks l xs)(Y:KeyAt C σ h k b)(hv:VR C σ h p v)
  (G:S.DictOfH (tk C.prog C.w) a (storedH xs k b v))(H:KR a h S):Sim C (σ.set a<|kset ks l k p) S/\Step none1 σ h (σ.set a<|kset ks l k p) S:=by
 obtain⟨o,I,L,V,t⟩:=d.dict_data;obtain⟨i,g,c,J,M,E,x,o0,n⟩:=G;have F:(xs.map (·.1)).Nodup:=by obtain⟨o0,o0,o0,o0,o0,o0,o0,o0,q⟩:=d.of;exact q
 have r:OR C σ h (kset ks l k p) i:=by
  unfold kset
  induction q:kidx ks k with
  |none=>
   have U:YV xs k=Jb:=by rw[jR,d.ks,q];rfl
   rw[storedH_new U] at x n;refine⟨g,c,_,M,E,x,by rw[QC,d.ks];rfl,by rw[QC,d.ks] at n;exact n,λy W=> ?_,?_⟩
   ·rcases Qt.mp W with W|W
    ·exact d.ka y W
    ·cases Qk.mp W;exact Y
   ·rw[QC];exact d.v.append ⟨v,[],rfl,hv,rfl⟩
  |some j=>
   have N:(YV xs k).isSome=Jc:=by rw[<-d.some_,q];rfl
   obtain⟨K,Z⟩:=Option.isSome_iff_exists.mp N;rw[storedH_old Z] at x n;refine⟨g,c,_,M,E,x,by rw[keys_map_putAt,d.ks],d.ks▸F,λy W=> ?_,?_⟩
   ·obtain⟨z,T,rfl⟩:=Qi.mp W;have:=d.ka z T;unfold putAt;by_cases w:z.1=k
    ·rw[Y8 w];exact this
    ·rw[Y7 w];exact this
   ·rw[pH k v (d.ks▸q) F];exact d.v.set j hv
 have u:(kset ks l k p).needs C.ok a:=by
  have:a≠JC:=m.rich a _ e;unfold kset;cases kidx ks k<;>exact this
 exact Sim.upd m e rfl H J r u
end
end
section
open PyProof.Rows
section
variable{C:Cx}{A:Jj}{Er:Jf->Je->Prop}{σ:PH}{s:Je}{Q:Post}{n:Nat}{fr:List Js}
mutual
theorem Rd.reads(m:Sim C σ h):∀ (d:YQ) (p:PV) (v:Jf),d.canLay0=Jc->Rd σ d p->VR C σ h p v->∃as,Reads h v d as
 | .none=>λp v o0 r x=>by change _=_ at r;subst r;change _=_ at x;subst x;exact⟨_,.none⟩
 | .bool b=>λp v o0 r x=>by change _=_ at r;subst r;change _=_ at x;subst x;exact⟨_,.bool b⟩
 | .int i=>λp v o0 r x=>by change _=_ at r;subst r;obtain⟨t,rfl⟩:=x;exact⟨_,.int i t⟩
 | .str y=>λp v o0 r x=>by obtain⟨z,rfl,rfl⟩:=r;obtain⟨t,rfl⟩:=x;exact⟨_,.str _ t⟩
 | .tuple ds=>λp v c r x=>by
  obtain⟨l,rfl,r⟩:=r;obtain⟨a,n,vs,rfl,O,N,Y⟩:=x;obtain⟨as,Z⟩:=Rds.reads m ds l vs.toList (by simpa [PyData.canLay0] using c) r Y;exact⟨_,.tuple N rfl rfl Z⟩
 | .list ds=>λp v c r x=>by
  obtain⟨a,l,rfl,e,r⟩:=r;change _=_ at x;subst x;obtain⟨vs,n,N,Y⟩:=m.list e;obtain⟨as,Z⟩:=Rds.reads m ds l vs.toList (by simpa [PyData.canLay0] using c) r Y;exact⟨_,.list N rfl rfl Z⟩
 | .dict ds=>λp v c r x=>r.elim
theorem Rds.reads(m:Sim C σ h):∀ (ds:List YQ) (l:List PV) (vs:List Jf),PyData.canLayAll0 ds=Jc->Rds σ ds l->VRs C σ h l vs->∃as,ReadsAll h vs ds as
 |[]=>λl vs o0 r x=>by change _=_ at r;subst r;change _=_ at x;subst x;exact⟨_,.nil⟩
 |d::ds=>λl vs c r x=>by
  obtain⟨p,ps,rfl,f,M⟩:=r;obtain⟨v,U,rfl,R,W⟩:=x;have K:d.canLay0=Jc/\PyData.canLayAll0 ds=Jc:=by simpa [PyData.canLayAll0] using c
  obtain⟨as,Z⟩:=Rd.reads m d p v K.1 f R;obtain⟨bs,D⟩:=Rds.reads m ds ps U K.2 M W;exact⟨_,.cons Z D⟩
end
theorem gm:∀ {ds:List YQ},(∀d∈ds,d.canLay0=Jc)->PyData.canLayAll0 ds=Jc
 |[]=>λo0=>rfl
 |d::ds=>λh=>by simp only[PyData.canLayAll0,h d (.head _),gm λx hx=>h x (.tail _ hx),Bool.and_self]
theorem jD:∀ {ds:List YQ},(∀d∈ds,d.depth<=n)->PyData.depthAll ds<=n
 |[]=>λo0=>by simp[PyData.depthAll]
 |d::ds=>λh=>by
  exact Nat.max_le.mpr ⟨h d<|.head _,jD λx hx=>h x<|.tail _ hx⟩
theorem VP.bool{S:Jg->Prop}{K:Bool->PH->Prop}(m:Sim C σ s.heap)(q:K b σ):VP C S σ s (λv σ'=>∃b,v= .bool b/\K b σ') (.bool b) s:=
 VP.here m rfl (Rest.refl s) fg ⟨b,rfl,q⟩
theorem rH{K:Bool->PH->Prop}{f:Bool->Bool}(m:Sim C σ s.heap)(Z:VR C σ s.heap a M)(r:VR C σ s.heap b q)(w:onD σ (λks o0=>oK (λk=>K (f (kidx ks k).isSome) σ) (keyOf a)) b)
  (k:∀E d xs i,(tk C.prog C.w).is s.heap i E->(d==JC)=Jd->s.heap.DictOfH (tk C.prog C.w) d xs->(∀tk,VP C none1 σ s (λv σ'=>∃b,v= .bool b/\K b σ') (.bool (f (YV xs i).isSome)) {s with toks:=tk})->
   Jh (Mo C) A (YS o (.ref E) (.ref d)) (VP C none1 σ s λv σ'=>∃b,v= .bool b/\K b σ') Er s):Jh (Mo C) A (YS o M q) (VP C none1 σ s λv σ'=>∃b,v= .bool b/\K b σ') Er s:=by
 obtain⟨d,ks,l,rfl,e,j⟩:=gY w;obtain⟨i,x,B⟩:=hU j;obtain⟨xs,D⟩:=m.dict e;obtain⟨P,rfl,h⟩:=jZ x Z;change _=_ at r;subst r;refine k P d xs i h.is D.sys D.of λtk=> ?_;exact VP.here (s:=s) m rfl ⟨rfl,rfl⟩ fg ⟨_,rfl,by rw[<-D.some_];exact B⟩
theorem yH(ho:mC op o=Jc){K:Bool->PH->Prop}(m:Sim C σ s.heap)(hu:A.units+100<cLine)(ra:VR C σ s.heap a va)(rb:VR C σ s.heap b vb)(w:wcmp op a b σ K):
  Jh (Mo C) A (YS o va vb) (VP C none1 σ s λv σ'=>∃b,v= .bool b/\K b σ') Er s:=by
 cases (Y6 ho);have two:∀ {f:Int->Int->Bool} {o:CmpOp},wrel f a b σ K->(∀x y t u,K (f x y) σ->Jh (Mo C) A (YS o (.int x t)<|.int y u) (VP C none1 σ s λv σ'=>∃b,v= .bool b/\K b σ') Er s)->Jh (Mo C) A (YS o va vb) (VP C none1 σ s λv σ'=>∃b,v= .bool b/\K b σ') Er s:=λw k=>by
  obtain⟨x,e,w⟩:=cf w;obtain⟨y,e',w⟩:=cf w;subst e e';obtain⟨t,rfl⟩:=ra;obtain⟨u,rfl⟩:=rb;exact k x y t u w
 have inn:∀ {K':Bool->PH->Prop},onL σ (λl=>X2 λc ds=>A5 (Rd σ c a) (Rds σ ds l) (okD c) ((∀d∈ds,okD d))<|K' (ds.any λd=>PyData.eqv d c) σ) b->X4 λc ds as bs=>A6 (Reads s.heap vb (.list ds) bs) (Reads s.heap va c as) (PyData.canLayAll0 ds=Jc) (c.canLay0=Jc) ((A.units+min (PyData.depthAll ds) c.depth+2<cLine)) (K' (ds.any λd=>PyData.eqv d c) σ):=λw=>by
  obtain⟨r,l,rfl,e,c,ds,r1,r2,k1,k2,w⟩:=gP w;obtain⟨as,q1⟩:=Rd.reads m c a va k1.1 r1 ra;obtain⟨bs,q2⟩:=Rd.reads m (.list ds) (.ref r) vb (gm λd hd=>(k2 d hd).1) ⟨r,l,rfl,e,r2⟩ rb;have h1:=jD λd hd=>(k2 d hd).2;exact⟨c,ds,as,bs,q2,q1,gm λd hd=>(k2 d hd).1,k1.1,by exact zmn2 hu h1,w⟩
 induction op with
 |eq=>
  obtain⟨c,d,r1,r2,k1,k2,w⟩:=w;obtain⟨as,q1⟩:=Rd.reads m c a va k1.1 r1 ra;obtain⟨bs,q2⟩:=Rd.reads m d b vb k2.1 r2 rb;have:=k1.2;exact SeqAt.compareEq_reads q1 q2 k1.1 k2.1 (by exact zmn hu this)<|VP.bool m w
 |ne=>
  obtain⟨c,d,r1,r2,k1,k2,w⟩:=w;obtain⟨as,q1⟩:=Rd.reads m c a va k1.1 r1 ra;obtain⟨bs,q2⟩:=Rd.reads m d b vb k2.1 r2 rb;exact SeqAt.compareNe_shaped q1 q2 (Qg.mpr ⟨k1.1,Y4<|zb2 k1.2 rfl⟩) (Qg.mpr ⟨k2.1,Y4<|zb2 k2.2 rfl⟩) (by exact zl (KH (by decide) _) hu)<|VP.bool m w
 |lt=>exact two w λx y t u w=>P.lt_int<|VP.bool m w
 |le=>exact two w λx y t u w=>P.le_int<|VP.bool m w
 |gt=>exact two w λx y t u w=>P.gt_int<|VP.bool m w
 |ge=>exact two w λx y t u w=>P.ge_int<|VP.bool m w
 |in_=>
  rcases w with w|w
  ·exact rH (f:=id) m ra rb w λka d xs kk h1 h2 h3 h4=>wpAny_in_heap (gZ hu) h1 h2 h3<|h4 _
  obtain⟨c,ds,as,bs,q2,q1,h1,h2,h3,w⟩:=inn w;exact SeqAt.in_list_reads q2 q1 h1 h2 (by exact zr4 h3)<|VP.bool m w
 |nin=>
  rcases (show onD σ (λks o0=>oK (λk=>K (!(kidx ks k).isSome) σ)<|keyOf a) b\/_ from w) with w|w
  ·exact rH (f:=not) m ra rb w λka d xs kk h1 h2 h3 h4=>wpAny_notIn_heap (gZ hu) h1 h2 h3<|h4 _
  obtain⟨c,ds,as,bs,q2,q1,h1,h2,h3,w⟩:=inn (K':=λr σ=>K (!r) σ) w;exact SeqAt.notIn_list_reads q2 q1 h1 h2 (by exact zr4 h3)<|VP.bool m w
end
end
section
open PyProof.Rows
section
variable{C:Cx}{A:Jj}{Er:Jf->Je->Prop}{σ:PH}{s:Je}{Q:Post}{n:Nat}{fr:List Js}
theorem VP.kept{S:Jg->Prop}{s':Je}(m:Sim C σ s.heap)(k:∀b o,s.heap.get? b=Ja o->s'.heap.get? b=Ja o)(r:Rest s s')(hv:VR C σ s.heap p v)(q:Q p σ):VP C S σ s Q v s':=
 ⟨p,σ,hv.step<|Step.more (S:=none1) k,m.more k,.more k,r,q⟩
theorem VP.keptNew{S:Jg->Prop}{o:PO}{s':Je}(m:Sim C σ s.heap)(k:∀b o,s.heap.get? b=Ja o->s'.heap.get? b=Ja o)(r:Rest s s')(g:s.heap.get? a=Jb)
  (e:s'.heap.get? a=Ja W)(T:∀σ',Step S σ s.heap σ' s'.heap->OR C σ' s'.heap o W)(q:wnew o σ Q)(d:o.needs C.ok a):VP C S σ s Q (.ref a) s':=by
 have E:σ a=Jb:=by
  induction h:σ a with
  |none=>rfl
  |some p=>obtain⟨W,N,o0⟩:=m.objs a p h;exact ns<|g.symm.trans N
 have R:C.B.get? a=Jb:=by
  induction h:C.B.get? a with
  |none=>rfl
  |some p=>have:=m.base a p h;exact ns<|g.symm.trans this
 have t:Step S σ s.heap (σ.set a o) s'.heap:=(Step.more k).add o g E;exact⟨.ref a,σ.set a o,rfl,m.add t (λx i e=>by obtain⟨P,N,o0⟩:=m.objs x i e;exact(k _ _ N).trans N.symm) (λb o e=>k b o<|m.base b o e) e R (T _ t) d,t,r,q a E⟩
theorem jU(h:Ji):h.get? h.objs.size=Jb:=by
 induction e:h.get? h.objs.size with
 |none=>rfl
 |some x=>exact absurd (QS e)<|KG _
theorem VRs.ints:∀ {l:List PV} {is:List Int} {vs:List Jf},cL l=Ja is->VRs C σ h l vs->∀ (i:Nat) (v:Jf),vs[i]? =Ja v->∃t,v= .int (is.getD i 0) t
 |[]=>λe r i v hv=>by change _=_ at r;subst r;simp at hv
 | .int k::l=>λe r i v hv=>by
  replace e:=Qs.mp e;obtain⟨j,T,rfl⟩:=e;obtain⟨w,ws,rfl,f,M⟩:=r
  induction i using Nat.casesOn with
  |zero=>simp at hv;subst hv;exact f
  |succ i=>simp at hv;simpa using VRs.ints T M i v hv
 | .none::l=>λe r i v hv=>onx e
 | .bool b::l=>λe r i v hv=>onx e
 | .str b::l=>λe r i v hv=>onx e
 | .tup b::l=>λe r i v hv=>onx e
 | .ref b::l=>λe r i v hv=>onx e
 | .scr b::l=>λe r i v hv=>onx e
theorem c3:∀ {l:List PV} {is:List Int},cL l=Ja is->is.length=l.length
 |[]=>λe=>by obtain rfl:=sj e;rfl
 | .int k::l=>λe=>by
  replace e:=Qs.mp e;obtain⟨j,T,rfl⟩:=e;simp[c3 T]
 | .none::l=>λe=>onx e
 | .bool b::l=>λe=>onx e
 | .str b::l=>λe=>onx e
 | .tup b::l=>λe=>onx e
 | .ref b::l=>λe=>onx e
 | .scr b::l=>λe=>onx e
theorem VRs.bools:∀ {l:List PV} {is:List Bool} {vs:List Jf},eU l=Ja is->VRs C σ h l vs->is.length=l.length/\∀ (i:Nat) (v:Jf),vs[i]? =Ja v->v= .bool (is.getD i Jd)
 |[]=>λe r=>by obtain rfl:=sj e;change _=_ at r;subst r;simp
 | .bool k::l=>λe r=>by
  replace e:=Qs.mp e;obtain⟨j,T,rfl⟩:=e;obtain⟨w,ws,rfl,f,M⟩:=r;obtain⟨P,U⟩:=VRs.bools T M;refine⟨by simp[P],λi v hv=> ?_⟩
  induction i using Nat.casesOn with
  |zero=>simp at hv;subst hv;exact f
  |succ i=>simp at hv;simpa using U i v hv
 | .none::l=>λe r=>onx e
 | .int b::l=>λe r=>onx e
 | .str b::l=>λe r=>onx e
 | .tup b::l=>λe r=>onx e
 | .ref b::l=>λe r=>onx e
 | .scr b::l=>λe r=>onx e
theorem jC:∀ (is:List Int) (n:Nat),n<=is.length->preSum (λi=>is.getD i 0) n=(is.take n).sum
 |is,0=>λo0=>by simp[preSum]
 |is,n+1=>λh=>by
  rw[preSum,jC is n<|by exact Kc h,List.take_add_one,Wf];have:is[n]? =Ja is[n]:=Qf (by exact h);simp[List.getD,this]
theorem qL(bs:List Bool):((Qc bs.length).all λi=>bs.getD i Jd)=bs.all id:=by
 rw[We];simp only[Qy,Qh,id]
 constructor
 ·intro h b R;obtain⟨i,t,rfl⟩:=KT R;have:=h i t
  simpa [List.getD,t] using this
 ·intro h i t;have:=h bs[i] (KN t)
  simpa [List.getD,t] using this
theorem gU{R:Jf->Je->Prop}(T:s.heap.get? l=Ja (lstO vs k))
  (h:∀I,I=s.heap.objs.size->l≠I->(s.heap.push {cls:= .type "list_iterator",data:= .fields #[.ref l,.int 0 0]}).IsListIter I l 0->
   (s.heap.push {cls:= .type "list_iterator",data:= .fields #[.ref l,.int 0 0]}).IsList l vs->R (.ref I) {s with heap:=s.heap.push {cls:= .type "list_iterator",data:= .fields #[.ref l,.int 0 0]}}):
  Jh (Mo C) A (YO<|.ref l) R Er s:=
 wpAny_pyIter_list ⟨_,T,rfl,k,rfl⟩ (h _ rfl (WE<|QS T) ⟨_,QL _ rfl,rfl,rfl⟩ ⟨_,Qm _ T,rfl,k,rfl⟩)
theorem oU{h:Ji}(p:I=h.objs.size)(N:h.get? a=Ja o)(R:b∈ [I,a]):b<(h.push o').objs.size:=by
 rw[Kv]
 rcases QB.mp R with rfl|R
 ·rw[p];exact QG _
 ·rw[Qk.mp R];exact Wh<|QS N
theorem jI{h:Ji}(p:I=h.objs.size)(e:h.get? b=Ja o):b∉ [I]:=λq=>by
 rw[Qk.mp q,p,jU] at e;exact ns e
theorem yV{is:List Int}(U:A.handled=Jb)(m:Sim C σ s.heap)(e:σ a=Ja (.list l))(hi:cL l=Ja is)(q:Q (.int is.sum) σ):
  Jh (Mo C) A (call (.builtin "sum") [.ref a]) (VP C none1 σ s Q) Er s:=by
 obtain⟨J,k,N,p⟩:=m.list e;refine call_sum_walkAnyS (gU N λI H h t T=> ?_);have g:J.size=is.length:=by rw[c3 hi];simpa using p.length
 refine⟨I,_,_,_,_,_,_,λi=>is.getD i 0,rfl,(Walks.list (prog:=C.prog) (w:=C.w) (A:=A.in1) U I a h J).toS,⟨t,T⟩,?_,?_,λG y mv=> ?_⟩
 ·exact λb R=>oU H N R
 ·intro i v hv;exact VRs.ints hi p i v<|by simpa using hv
 ·rw[g,jC is _<|Qz _,Yr (Qz _)];refine VP.kept m (λb o Z=>mv.heap b o (jI H Z)<|Qm _ Z) ⟨mv.gens,mv.os⟩ (cX _) q
theorem wY{bs:List Bool}(U:A.handled=Jb)(m:Sim C σ s.heap)(e:σ a=Ja (.list l))(hi:eU l=Ja bs)(q:Q (.bool (bs.all id)) σ):
  Jh (Mo C) A (call (.builtin "all") [.ref a]) (VP C none1 σ s Q) Er s:=by
 obtain⟨J,k,N,p⟩:=m.list e;refine call_all_walk (gU N λI H h t T=> ?_);obtain⟨d,V⟩:=VRs.bools hi p;have g:J.size=bs.length:=by rw[d];simpa using p.length
 refine⟨I,_,_,_,_,_,λi=>bs.getD i Jd,rfl,Walks.list (prog:=C.prog) (w:=C.w) (A:=A.in1) U I a h J,⟨t,T⟩,?_,λS tk M=> ?_⟩
 ·intro i v G r E hv X;rw[V i v (by simpa using hv)];exact wpAny_truthy_bool X
 ·rw[g,qL];refine VP.kept m (λb o Z=>M b o (jI H Z)<|Qm _ Z) ⟨rfl,rfl⟩ fg q
set_option tactic.hygienic true in
theorem yr(m:Sim C σ s.heap)(r:VR C σ s.heap p v)(e:plen σ p=Ja k)(M:k<=lim)(q:Q (.int k) σ):
  Jh (Mo C) A (call (.builtin "len") [v]) (VP C none1 σ s Q) Er s:=by
 have R:k<=1000000:=M
 induction p using PV.casesOn with
 |ref a=>
  change _=_ at r;subst r;obtain⟨l,T,rfl⟩:=rG (show lenO (σ a)=Ja k from e);obtain⟨w,j,N,Y⟩:=m.list T;have h:w.size=l.length:=by simpa using Y.length
  refine Calls.call_len_list ⟨_,N,rfl,j,rfl⟩ (by rw[h];exact zi3 R) ?_;rw[h];exact VP.here m rfl ⟨rfl,rfl⟩ (cX _) q
 |tup l=>
  obtain rfl:=sj e;obtain⟨a,j,w,rfl,W,N,Y⟩:=r;have h:w.size=l.length:=by simpa using Y.length
  refine P.len_tuple N (by rw[h];exact Yp.mpr<|zi3 R) ?_;rw[h];exact VP.here m rfl ⟨rfl,rfl⟩ (cX _) q
 |scr l=>
  obtain rfl:=sj e;obtain⟨a,o,j,w,rfl,N,Y,J,h,o0⟩:=r;refine Calls.call_len_list ⟨_,m.base _ _ N,Y,j,J⟩ (by rw[h];exact zi3 R) ?_;rw[h];exact VP.here m rfl ⟨rfl,rfl⟩ (cX _) q
 |_=>exact ns e
theorem eO:∀ {is:List Int},is≠ []->lmin is∈is/\∀a∈is,lmin is<=a
 |x::r,_=>by
  have key:∀ (r:List Int) (x:Int),(r.foldl min x=x\/r.foldl min x∈r)/\r.foldl min x<=x/\∀a∈r,r.foldl min x<=a:=by
   intro r
   induction r with
   |nil=>intro x;exact⟨.inl rfl,QV _,λa T=>(bN T)⟩
   |cons y r i=>
    intro x;obtain⟨N,p,J⟩:=i<|min x y;refine⟨?_,QE p<|Int.min_le_left _ _,λa T=> ?_⟩
    ·rcases N with N|N
     ·show r.foldl min (min x y)=x\/r.foldl min (min x y)∈y::r;rw[N]
      rcases Int.le_total x y with q|q
      ·exact .inl<|Yz q
      ·rw[Int.min_eq_right q];exact .inr<|.head _
     ·exact .inr<|.tail _ N
    ·cases T with
     |head=>exact QE p<|Int.min_le_right _ _
     |tail _ T=>exact J a T
  obtain⟨N,p,J⟩:=key r x;refine⟨N.elim (λh=>by show r.foldl min x∈x::r;rw[h];exact .head _)<|.tail _,λa T=> ?_⟩;cases T with
  |head=>exact p
  |tail _ T=>exact J a T
theorem vf{is:List Int}(h:M∈is)(p:∀a∈is,M<=a):lmin is=M:=by
 obtain⟨k,U⟩:=eO (is:=is) (λq=>by rw[q] at h;cases h);exact Wd (U M h)<|p _ k
theorem xE{is:List Int}(f:A.handled=Jb)(m:Sim C σ s.heap)(e:σ a=Ja (.list l))(hi:cL l=Ja is)(U:is≠ [])(q:Q (.int (lmin is)) σ):
  Jh (Mo C) A (call (.builtin "min") [.ref a]) (VP C none1 σ s Q) Er s:=by
 obtain⟨J,k,E,p⟩:=m.list e;refine call_min_walk (gU E λI W R L T=> ?_);have g:J.size=is.length:=by rw[c3 hi];exact p.length
 have h:0<is.length:=List.length_pos_iff.mpr U;refine⟨I,_,_,_,_,_,_,rfl,Walks.list (prog:=C.prog) (w:=C.w) (A:=A.in1) f I a R J,⟨L,T⟩,?_,g▸h,CmpOf.ints_lt (λi=>is.getD i 0)<|λi v hv=>VRs.ints hi p i v<|by simpa using hv,λv y tk P M=> ?_⟩
 ·exact λb S=>oU W E S
 ·obtain⟨t,rfl⟩:=VRs.ints hi p _ v (by simpa using P);obtain⟨d,V⟩:=argBest_lt (λi=>is.getD i 0)<|J.size-1;have N:argBest (λi j=>decide<|is.getD i 0<is.getD j 0) (J.size-1)<is.length:=by exact zl d (zq (Nat.sub_lt (zq h g.symm) Nat.one_pos) g)
  have u:is.getD (argBest (λi j=>decide<|is.getD i 0<is.getD j 0)<|J.size-1) 0∈is:=by
   rw[KV,Qf N];exact KN N
  rw[vf u λx hx=> ?_] at q
  ·refine VP.kept m (λb o Z=>M b o (jI W Z)<|Qm _ Z) ⟨rfl,rfl⟩ (cX _) q
  ·obtain⟨j,H,rfl⟩:=KT hx;have:=V j (by exact Nat.le_sub_one_of_lt<|zq H g.symm);rw[KV (i:=j),Qf H] at this;exact this
theorem ph{vs:Array Jf}(Y:T="list"\/T="tuple")(m:Sim C σ s.heap)(N:s.heap.get? a=Ja {cls:= .type T,data:= .seq vs k})(p:VRs C σ s.heap l vs.toList)
  (hz:Okl l) (q:wnew (.list l) σ Q):Jh (Mo C) A (call (.type "list") [.ref a]) (VP C none1 σ s Q) Er s:=by
 have g:vs.size=l.length:=by simpa using p.length
 have h:l.length<=1000000:=hz;refine call_list_seq a Y N rfl rfl (λS c M e=> ?_) (by simp[JJ];exact zle (Kd g)<|zb2 h rfl);exact VP.keptNew (o:= .list l) m M ⟨rfl,rfl⟩ (jU _) e (λX t=>⟨vs,c,rfl,p.step t⟩) q trivial
theorem qb:∀ {xs:XS},(∀y∈xs,KeyAt C σ h y.1 y.2.1)->VRs C σ h ((xs.map (·.1)).map keyPV) (xs.map λy=> .ref y.2.1)
 |[]=>λo0=>rfl
 |x::xs=>λk=>by
  obtain⟨n,w,m,g,i⟩:=k x<|.head _;refine⟨_,_,rfl,⟨_,m,w,rfl,n,g,?_⟩,qb λy S=>k y<|.tail _ S⟩;clear g;show VRs C σ h (x.1.map KA.pv) w.toList;generalize w.toList=l at i ⊢;generalize x.1=D at i ⊢
  induction i with
  |nil=>exact rfl
  |@cons a v L w N _ W=>
   refine⟨v,w,rfl,?_,W⟩
   induction a with
   |n j=>exact fC N
   |t s=>exact fB N
theorem sP{ks:List (List KA)}(f:A.handled=Jb)(m:Sim C σ s.heap)(e:σ a=Ja (.dict ks l))(hz:Okl (ks.map keyPV))(q:wnew (.list (ks.map keyPV)) σ Q):
  Jh (Mo C) A (call (.type "list") [.ref a]) (VP C none1 σ s Q) Er s:=by
 obtain⟨P,D⟩:=m.dict e;obtain⟨o,U,H,g,M,E,x,o0⟩:=D.of;have r:U.size=ks.length:=by rw[J6 x,<-D.ks,Qd]
 refine W.kdl_call (uG (es:=U) (ep:=H) D.sys) f ⟨o,g,M,E⟩ (by rw[r,JU];have:(ks.map keyPV).length<=1000000:=hz;rw[Qd] at this;exact zb2 this rfl) λR tk c K k d h=> ?_;refine VP.keptNew (o:= .list (ks.map keyPV)) m k ⟨rfl,rfl⟩ (jU _) d (λX Z=>⟨c,K,rfl,?_⟩) q trivial;have:c.toList=P.map λy=> .ref y.2.1:=by
  refine WM λi=> ?_;rw[Array.getElem?_toList,Qu];by_cases t:i<c.size
  ·obtain⟨N,T,w⟩:=h.2 i c[i] (KI t);rw[entry_at x] at T;obtain⟨y,S,u⟩:=Qs.mp T;rw[KI t,S,w,<-u];rfl
  ·have p:P.length<=i:=by rw[<-J6 x];have:=h.1;exact zle (Kd this.symm) (QT.mp t)
   rw[Yq (QT.mp t),KK p];rfl
 rw[this,<-D.ks];exact(qb D.ka).step Z
theorem mR:∀ {l:List PV} {is:List Int} {vs:List Jf},cL l=Ja is->VRs C σ h l vs->IntsAre vs is
 |[],is,vs,e,r=>by change _=_ at r;subst r;obtain rfl:=sj e;exact .nil
 |p::l,is,vs,e,r=>by
  obtain⟨v,U,rfl,f,M⟩:=r
  induction p using PV.casesOn with
  |int i=>
   obtain⟨j,T,rfl⟩:=Qs.mp (show(cL l).map (i:: ·)=Ja is from e);obtain⟨t,rfl⟩:=f;exact .cons i t<|mR T M
  |_=>first|exact onx e|cases e
theorem uB:∀ {is:List Int} {vs:List Jf},IntsAre vs is->VRs C σ h (is.map .int) vs:=λr=>by
 induction r with
 |nil=>rfl
 |cons i t r W=>exact⟨_,_,rfl,⟨t,rfl⟩,W⟩
theorem qH{is:List Int}(m:Sim C σ s.heap)(e:σ a=Ja (.list l))(hi:cL l=Ja is)(T:is.length<64)(q:∀j:List Int,j.Perm is->j.Pairwise (· <= ·)->wlist (j.map .int) σ Q):
  Jh (Mo C) A (call (.builtin "sorted") [.ref a]) (VP C none1 σ s Q) Er s:=by
 obtain⟨v,k,N,h⟩:=m.list e;have g:v.toList.length=is.length:=by rw[c3 hi];exact h.length
 refine sorted_ints (vs:=v.toList) (ns:=is) (by rw[Array.toArray_toList];exact⟨_,N,rfl,k,rfl⟩) (mR hi h) (by exact zl (Kd g) T) λu f F L H=> ?_;obtain⟨S,O⟩:=sortedAll_at s.heap v.toList u;exact VP.keptNew (o:= .list (f.map .int)) m (λo0 o0=>sortedAll_old) ⟨rfl,rfl⟩ (Wb<|Wo _) O (λX t=>⟨_,S,rfl,uB F⟩) (q f L H).2 trivial
end
end
section
open PyProof.Rows
theorem lmx:∀ (r:List Int) (x:Int),(r.foldl max x=x\/r.foldl max x∈r)/\x<=r.foldl max x/\∀a∈r,a<=r.foldl max x:=λr=>by
 induction r with
 |nil=>exact λx=>⟨.inl rfl,QV _,λo0 h=>bN h⟩
 |cons b r i=>
  intro x;obtain⟨N,p,J⟩:=i<|max x b;refine⟨?_,QE (Int.le_max_left x b) p,λa T=> ?_⟩
  ·rcases N with N|N
   ·show r.foldl max (max x b)=x\/r.foldl max (max x b)∈b::r;rw[N]
    rcases Int.le_total x b with q|q
    ·rw[Int.max_eq_right q];exact .inr<|.head _
    ·rw[Int.max_eq_left q];exact .inl rfl
   ·exact .inr<|.tail _ N
  ·cases T with
   |head=>exact QE (Int.le_max_right x b) p
   |tail _ T=>exact J a T
theorem lq{is:List Int}(h:is≠ []):lmax is∈is/\∀a∈is,a<=lmax is:=by
 rcases is with o0|⟨x,r⟩
 ·exact absurd rfl h
 ·obtain⟨N,p,J⟩:=lmx r x;refine⟨?_,λa T=> ?_⟩
  ·rcases N with N|N
   ·exact QB.mpr<|.inl N
   ·exact .tail _ N
  ·cases T with
   |head=>exact p
   |tail _ T=>exact J a T
section
variable{C:Cx}{A:Jj}{Er:Jf->Je->Prop}{σ:PH}{s:Je}{Q:Post}{n:Nat}
theorem xy{is:List Int}(f:A.handled=Jb)(m:Sim C σ s.heap)(e:σ a=Ja (.list l))(hi:cL l=Ja is)(U:is≠ [])(q:Q (.int (lmax is)) σ):
  Jh (Mo C) A (call (.builtin "max") [.ref a]) (VP C none1 σ s Q) Er s:=by
 obtain⟨J,k,E,p⟩:=m.list e;refine call_max_walk (gU E λI W R L r=> ?_);have g:J.size=is.length:=by rw[c3 hi];exact p.length
 have h:0<is.length:=List.length_pos_iff.mpr U;refine⟨I,_,_,_,_,_,_,rfl,Walks.list (prog:=C.prog) (w:=C.w) (A:=A.in1) f I a R J,⟨L,r⟩,?_,g▸h,CmpOf.ints_gt (λi=>is.getD i 0)<|λi v hv=>VRs.ints hi p i v<|by simpa using hv,λv y tk X M=> ?_⟩
 ·exact λb S=>oU W E S
 ·obtain⟨t,rfl⟩:=VRs.ints hi p _ v (by simpa using X);obtain⟨d,V⟩:=argBest_gt (λi=>is.getD i 0)<|J.size-1;have N:argBest (λi j=>decide<|is.getD i 0>is.getD j 0) (J.size-1)<is.length:=by exact zl d (zq (Nat.sub_lt (zq h g.symm) Nat.one_pos) g)
  have u:is.getD (argBest (λi j=>decide<|is.getD i 0>is.getD j 0)<|J.size-1) 0∈is:=by
   rw[KV,Qf N];exact KN N
  have x:lmax is=is.getD (argBest (λi j=>decide<|is.getD i 0>is.getD j 0)<|J.size-1) 0:=by
   obtain⟨P,Y⟩:=lq U;refine Wd ?_<|Y _ u;obtain⟨j,H,T⟩:=KT P;have:=V j (by exact Nat.le_sub_one_of_lt<|zq H g.symm);rw[KV (i:=j),Qf H] at this;rw[<-T];exact this
  rw[x] at q;refine VP.kept m (λb o Z=>M b o (jI W Z)<|Qm _ Z) ⟨rfl,rfl⟩ (cX _) q
theorem vY(U:A.handled=Jb)(m:Sim C σ s.heap)(q:Q (.int (min x y)) σ):Jh (Mo C) A (call (.builtin "min") [.int x t,.int y u]) (VP C none1 σ s Q) Er s:=by
 refine min_two_ints U λS tk h=> ?_;by_cases z:y<x
 ·rw[Y8 z];rw[Int.min_eq_right (WC z)] at q;exact VP.kept m h ⟨rfl,rfl⟩ (cX _) q
 ·rw[Y7 z];rw[Yz (Kz.mp z)] at q;exact VP.kept m h ⟨rfl,rfl⟩ (cX _) q
theorem nG:∀ {is:List Int} {vs:List Jf},vs.length=is.length->(∀ (i:Nat) (v:Jf),vs[i]? =Ja v->∃t,v=Value.int (is.getD i 0) t)->VRs C σ h (is.map PV.int) vs
 |[],[],_,_=>rfl
 |[],_::_,e,_=>nomatch e
 |_::_,[],e,_=>nomatch e
 |i::is,v::vs,e,k=>⟨v,vs,rfl,k 0 v rfl,nG (Nat.succ.inj e) λj u p=>k (j+1) u p⟩
theorem zG{k:Int}(U:A.handled=Jb)(m:Sim C σ s.heap)(q:0<=k/\k<=1000)(w:wnew (.list ((Qc k.toNat).map λ(i:Nat)=> .int i)) σ Q):
  Jh (Mo C) A (call (.type "range") [.int k t]) (λu W=>(∀x o,C.B.get? x=Ja o->W.heap.get? x=Ja o)/\Jh (Mo C) A (call (.type "list") [u]) (VP C none1 σ s Q) Er W) Er s:=by
 have L:Builtin.Range.rangeSize 0 k 1=(k.toNat:Int):=by rw[rangeSize_one 0 k];exact zrs k
 refine call_range_1 ?_;have old:∀x o,s.heap.get? x=Ja o->(s.heap.push {cls:= .type "range",data:= .fields #[.int 0 s.toks,.int k t,.int 1 (s.toks+1)]}).get? x=Ja o:=λx o e=>Qm _ e;refine⟨λx o e=>old x o<|m.base x o e,?_⟩;refine call_list_range U (IsRange.new ..) (small_one (by decide) (by decide) (QE (by decide) q.1)<|Ye q.2 (by decide)) L (Qq (YD.mpr q.2)<|by decide) λS tk a c j T I=> ?_;refine VP.keptNew (o:= .list ((Qc k.toNat).map λ(i:Nat)=> .int i)) m (λb o e=>j b o<|old b o e) ⟨rfl,rfl⟩ (Wb<|by rw[Kv];exact Wo _) T (λX Z=>⟨_,c,rfl,?_⟩) w trivial;have z:=nG (C:=C) (σ:=X) (h:=S) (is:=(Qc k.toNat).map λ(i:Nat)=>(i:Int)) (vs:=a.toList) (by rw[WY,I.1,Qd,Qr]) λi v hv=>by
  rw[Array.getElem?_toList] at hv;obtain⟨u,rfl⟩:=I.2 i v hv;have V:i<k.toNat:=by rw[<-I.1];exact(Kn.mp hv).1
  refine⟨u,?_⟩;rw[KV,Qu,Wk V];show Value.int (0+i*1) u= .int i u;rw[Wj,Int.mul_one]
 rw[Qx] at z;exact z
inductive PrAt(h:Ji)(p:Int×Int):Jf->Prop
 |mk (a:Jg) (n:Nat) (t u:Tok) (e:h.get? a=Ja (tupO #[.int p.1 t,.int p.2 u] n)):PrAt h p (.ref a)
theorem PrAt.keep{h S:Ji}(k:∀b o,h.get? b=Ja o->S.get? b=Ja o)(x:PrAt h p v):PrAt S p v:=by
 obtain⟨a,n,t,u,e⟩:=x;exact⟨a,n,t,u,k _ _ e⟩
theorem zu(e:prOf q=Ja p)(r:VR C σ h q v):q=prPV p/\PrAt h p v:=by
 have o:q=prPV p:=by
  rcases q with o0|o0|o0|o0|l|o0|o0<;>try exact ns e
  rcases l with o0|⟨a,o0|⟨b,o0|⟨o0,o0⟩⟩⟩<;>try (first|exact ns e|(rcases a with⟨⟩<;>first|exact ns e|(rcases b with⟨⟩<;>exact ns e)))
  rcases a with⟨⟩<;>try exact ns e
  rcases b with⟨⟩<;>try exact ns e
  cases e;rfl
 subst o;obtain⟨a,n,J,rfl,o0,N,f,m,T,⟨t,rfl⟩,R,M,rfl,⟨u,rfl⟩,rfl⟩:=r;have:J= #[.int p.1 t,.int p.2 u]:=Array.toList_inj.mp T;subst this;exact⟨rfl,a,n,t,u,N⟩
theorem ud:∀ {l:List PV} {ps:List (Int×Int)} {vs:List Jf},ig l=Ja ps->VRs C σ h l vs->A3 (vs.length=ps.length) (l=ps.map prPV) (∀i,i<ps.length->PrAt h (ps.getD i (0,0)) (vs.getD i .none))
 |[],ps,vs,e,r=>by
  obtain rfl:=sj e;obtain rfl:vs=[]:=r;exact⟨rfl,rfl,λi t=>absurd t<|Kw i⟩
 |q::l,ps,vs,e,r=>by
  obtain⟨v,U,rfl,f,M⟩:=r;obtain⟨p,T,F⟩:=Qn.mp (show((prOf q).bind λx=>(ig l).map (x:: ·))=Ja ps from e);obtain⟨E,X,rfl⟩:=Qs.mp F;obtain⟨P,Y,V⟩:=ud X M;obtain⟨k,O⟩:=zu T f;refine⟨Ub (· +1) P,by rw[k,Y];rfl,λi t=> ?_⟩
  rcases i with o0|i
  ·exact O
  ·exact V i<|Nat.lt_of_succ_lt_succ t
section
variable{prog:Jn}{w:Jm}
theorem wQ{K:Bool->Je->Prop}(hv:PrAt s.heap p v)(d:PrAt s.heap q u)(k:K (lexLt p q) s):Jh (Jt prog w) A (keyLt' (tuples' Jc) v u) K Er s:=by
 obtain⟨a,n,t,g,T⟩:=hv;obtain⟨b,m,u,r,e⟩:=d;unfold lexLt at k;refine W.kat_lt T rfl e rfl<|W.kat_cons (wpAny_eqBool_int ?_);refine W.kat_go (λh=>W.kat_yes<|W.kat_cons (wpAny_eqBool_int ?_)) λh=>W.kat_no ?_
 ·rw[h] at k;refine W.kat_go (λY=>W.kat_yes<|W.kat_nil ?_) λY=>W.kat_no<|W.kat_one _ _ (P.lt_int ?_)
  ·rw[Y9 Y] at k;rw[show(cond Jc (decide<|q.2<q.2)<|decide (p.1<q.1))=Jd from Y5 (Int.lt_irrefl _)] at k;exact k
  ·exact k
 ·rw[h] at k;exact oneLt_int k
theorem wM{L:Type}{m:Nat->Nat->(Bool->Je->Prop)->Je->Prop}{c:Nat->Nat->Bool}{K:L->Je->Prop}(Z:∀i j (k:Bool->Je->Prop),i<n->j<n->k (c i j) s->m i j k s):∀ {t:W.KasT L} {a:L},evC n c t=Ja a->K a s->t.kasWp m K s
 | .ret b,a,e,k=>by obtain rfl:=sj e;exact k
 | .ask i j f,a,e,k=>by
  have e:cond (decide (i<n)&&decide (j<n)) (evC n c<|f (c i j)) Jb=Ja a:=e
  induction h:(decide (i<n)&&decide (j<n)) with
  |false=>rw[h] at e;exact ns e
  |true=>
   rw[h] at e;obtain⟨N,p⟩:=Qg.mp h;exact Z i j _ (Y6 N) (Y6 p)<|wM Z e k
theorem pw:∀ {ps:List (Int×Int)} {vs:List Jf},vs.length=ps.length->(∀i,i<ps.length->PrAt h (ps.getD i (0,0)) (vs.getD i .none))->∃f,A3 (W.KatTups h vs f) (f.length=ps.length) (∀v∈f,∃i t,v=Value.int i t)
 |[],[],_,_=>⟨[],trivial,rfl,λo0 q=>bN q⟩
 |[],_::_,e,_=>nomatch e
 |_::_,[],e,_=>nomatch e
 |p::ps,v::vs,e,D=>by
  obtain⟨f,k,U,F⟩:=pw (Nat.succ.inj e) λi V=>D (i+1)<|WR V;obtain⟨a,n,t,u,T⟩:=D 0<|YC _;refine⟨.int p.1 t::f,W.KatTups.cons T rfl rfl rfl k,Ub (· +1) U,λv hv=> ?_⟩
  rcases QB.mp hv with rfl|hv
  ·exact⟨_,_,rfl⟩
  ·exact F v hv
def outL(ps:List (Int×Int))(vs:List Jf):List Jf:=cond (decide (ps.length<2)) vs (((srtO ps).getD #[]).toList.map λi=>vs.getD i .none)
theorem PrAt.keep1{h S:Ji}{o:Jp}(d:h.get? a=Ja o)(c:o.cls≠ .type "tuple")(k:∀b x,b≠a->h.get? b=Ja x->S.get? b=Ja x)(y:PrAt h p v):PrAt S p v:=by
 obtain⟨b,n,t,u,e⟩:=y;refine⟨b,n,t,u,k _ _ (λq=> ?_) e⟩;subst q;rw[d] at e;exact c<|by rw[sj e]
theorem tM{vs:List Jf}{ps:List (Int×Int)}{P:PySem.Fin->Je->Prop}(ho:s.heap.get? a=Ja (seqObj "list" vs.toArray n))(hl:vs.length=ps.length)(hp:∀i,i<ps.length->PrAt s.heap (ps.getD i (0,0)) (vs.getD i .none))(hc:chkP ps=Jc)
  (h:P (.done<|.ret .none) {s with heap:=sortedHeap s.heap a vs (outL ps vs).toArray}):Jh (Jt prog w) A (Builtin.«list.sort» ⟨[.ref a],[]⟩) P Er s:=by
 obtain⟨c1,c2⟩:=Qg.mp hc;have h64:vs.length<64:=by rw[hl];exact Y6 c1
 have hL:vs.length<=JJ:=by rw[JU];exact Qq (KJ h64)<|by decide
 have ha:a<s.heap.objs.size:=QS ho;rw[list_sort_plain];refine YG<|listItems_at ho rfl (YG<|listUpdate_at ho rfl ?_ (by rw[Yn];exact hL) (QN _));obtain⟨e1,ho1⟩:∃e1,(s.heap.update a<|Obj.mapSeq λo0=> #[]).get? a=Ja (seqObj "list" #[] e1):=⟨_,get?_update_seq ho λo0=> #[]⟩
 refine YG<|seqEpoch_at ho1 rfl (YG<|wpAny_newTuple ?_ hL);refine YG<|wpAny_newList ?_ (QN _);refine YJ ?_;have keep:∀b x,b≠a->s.heap.get? b=Ja x->(((s.heap.update a<|Obj.mapSeq λo0=> #[]).push (seqObj "tuple" vs.toArray 0)).push (seqObj "list" #[] 0)).get? b=Ja x:=λb x hb e=>Qm _<|Qm _ ((WA _ _ _ _ hb).trans e);have ho6:(((s.heap.update a<|Obj.mapSeq λo0=> #[]).push (seqObj "tuple" vs.toArray 0)).push (seqObj "list" #[] 0)).get? a=Ja (seqObj "list" #[] e1):=Qm _<|Qm _ ho1;have hp6:=λi hi=>(hp i hi).keep1 ho (show Value.type "list"≠ .type "tuple" from λq=>by injection q with q;exact absurd q<|by decide) keep;show Jh (Jt prog w) A _ P Er {s with heap:=((s.heap.update a<|Obj.mapSeq λo0=> #[]).push (seqObj "tuple" vs.toArray 0)).push (seqObj "list" #[] 0)};dsimp only;unfold sortedHeap at h;generalize (((s.heap.update a<|Obj.mapSeq λo0=> #[]).push (seqObj "tuple" vs.toArray 0)).push (seqObj "list" #[] 0))=h6 at ho6 hp6 h ⊢;by_cases h2:vs.toArray.size<2
 ·rw[Y8 h2,Y8 h2];have e2:outL ps vs=vs:=by unfold outL;rw[<-hl,Y4 (show vs.length<2 from by simpa using h2)];rfl
  rw[e2] at h;refine YG<|YH ?_;rw[StateT.run_pure];refine YG<|YH ?_;dsimp only;have e3:(arrOf<|SortSt.mk' general' (vs.toArray.zip vs.toArray) #[] 7 Jb).map (·.2)=vs.toArray:=by
   show(vs.toArray.zip vs.toArray).map (·.2)=vs.toArray;apply Array.toList_inj.mp;rw[Array.toList_map,Array.toList_zip];exact List.map_snd_zip<|Qz _
  rw[e3];refine YG<|seqEpoch_at ho6 rfl (YG<|listUpdate_at ho6 rfl ?_ (QN _) (by rw[Yn];exact Wt hL));simp only[bne_self_eq_false,WG,if_false];exact YH h
 ·rw[Y7 h2,Y7 h2];have h2':2<=vs.length:=by simpa using h2
  have n2:decide (ps.length<2)=Jd:=by rw[<-hl];exact Y5<|QT.mpr h2'
  rw[n2,Bool.false_or] at c2;obtain⟨p,hs,hall⟩:∃p,srtO ps=Ja p/\p.toList.all (λi=>decide<|i<ps.length)=Jc:=by
   rcases hs:srtO ps with o0|p
   ·rw[hs] at c2;exact ft c2
   ·rw[hs] at c2;exact⟨p,rfl,c2⟩
  have e2:outL ps vs=p.toList.map λi=>vs.getD i .none:=by unfold outL;rw[n2,hs];rfl
  rw[e2] at h;obtain⟨fs,k1,k2,k3⟩:=pw hl hp6;refine YG<|W.kat_kind (s:={s with heap:=h6}) (T:= .type "int") k1 (by rw[k2,<-hl];exact QO (by decide) h2') (λv hv=>by obtain⟨i,t,rfl⟩:=k3 v hv;exact W.Looks.of_pure rfl) rfl ?_;rw[show(Value.type "int" !=Value.type "tuple")=Jc from rfl];refine YG<|YI (W.kat_run (s:={s with heap:=h6}) (G:=λq s'=>q=p/\s'={s with heap:=h6}) (Q:=λst' s'=>A4 (s'={s with heap:=h6}) (p.size=vs.length) (arrOf st'=p.map (W.kas_item<|vs.toArray.zip vs.toArray))<|failedOf st'=Jb) rfl h2' h64 (λq st' s' a1 a2 a3 a4=>by obtain⟨rfl,rfl⟩:=a4;exact⟨rfl,a1,a2,a3⟩) ?_) ?_ λo0 o0 e=>e
  ·rw[hl];exact wM (s:={s with heap:=h6}) (λi j k hi hj hk=>wQ (s:={s with heap:=h6}) (hp6 i hi) (hp6 j hj) hk) hs ⟨rfl,rfl⟩
  rintro ⟨⟨⟩,st'⟩ s' ⟨rfl,hz,har,hf⟩;dsimp only;rw[W.kat_snds rfl har];refine YG<|seqEpoch_at ho6 rfl (YG<|listUpdate_at ho6 rfl ?_ (QN _) (by rw[Yn,Qd,WY,hz];exact Wt hL));rw[hf];simp only[bne_self_eq_false,WG,if_false];exact YH h
theorem n9{vs:List Jf}{ps:List (Int×Int)}{K:Jf->Je->Prop}(hl:s.heap.IsList l vs.toArray)(hn:vs.length=ps.length)(hp:∀i,i<ps.length->PrAt s.heap (ps.getD i (0,0)) (vs.getD i .none))(hc:chkP ps=Jc)
  (h:K (.ref<|s.heap.objs.size+1) {s with heap:=sortedAll s.heap vs (outL ps vs).toArray}):Jh (Jt prog w) A (call (.builtin "sorted") [.ref l]) K Er s:=by
 have h64:vs.length<64:=by rw[hn];exact Y6 (Qg.mp hc).1
 have hL:vs.length<=JJ:=by rw[JU];exact Qq (KJ h64)<|by decide
 refine Calls.call_function_entry kind_sorted plain_sorted entry_sorted (args_sorted1 _) ?_;unfold Builtin.«sorted»;refine YG (m:=checkCount "sorted" 1 1 _)<|YH (YG<|collect_list hl ?_ hL);refine YG<|wpAny_newList ?_ hL;have hsz:((s.heap.push<|seqObj "list" #[] 0).update s.heap.objs.size (Obj.mapSeq (· ++vs.toArray))).objs.size=s.heap.objs.size+1:=by rw[Heap.size_update,size_push']
 have hoL:(((s.heap.push<|seqObj "list" #[] 0).update s.heap.objs.size (Obj.mapSeq (· ++vs.toArray))).push (seqObj "list" vs.toArray 0)).get? (s.heap.objs.size+1)=Ja (seqObj "list" vs.toArray 0):=by rw[<-hsz];exact QL _ rfl
 have keep:∀b o,s.heap.get? b=Ja o->(((s.heap.push<|seqObj "list" #[] 0).update s.heap.objs.size (Obj.mapSeq (· ++vs.toArray))).push (seqObj "list" vs.toArray 0)).get? b=Ja o:=λb o q=>
  Qm _ ((WA _ _ _ _<|WE (QS q)).trans (Qm _ q))
 show Jh _ _ _ _ _ {s with heap:=((s.heap.push<|seqObj "list" #[] 0).update s.heap.objs.size (Obj.mapSeq (· ++vs.toArray))).push (seqObj "list" vs.toArray 0)};rw[hsz];refine YG<|YJ (YM slot_list_sort ⟨_,hoL,rfl⟩ entry_list_sort (tM hoL hn (λi hi=>(hp i hi).keep keep) hc ⟨_,rfl,YH ⟨_,rfl,h⟩⟩)<|args_list_sort _)
end
theorem xA{ps:List (Int×Int)}(hv:VRs C σ h (ps.map prPV) vs)(Z:chkP ps=Jc):VRs C σ h ((srtP ps).map prPV) (outL ps vs):=by
 unfold srtP outL;obtain⟨o0,c⟩:=Qg.mp Z
 induction d:decide (ps.length<2) with
 |true=>exact hv
 |false=>
  rw[d,Bool.false_or] at c;show VRs C σ h ((((srtO ps).getD #[]).toList.map λi=>ps.getD i (0,0)).map prPV) (((srtO ps).getD #[]).toList.map λi=>vs.getD i .none);have a:∀i∈((srtO ps).getD #[]).toList,i<ps.length:=λi t=>by
   rcases E:srtO ps with o0|p
   ·rw[E] at c;exact ft c
   ·rw[E] at c t;exact Y6<|Qy.mp c i t
  have at_:∀ {ps:List (Int×Int)} {vs:List Jf},VRs C σ h (ps.map prPV) vs->∀i,i<ps.length->VR C σ h (prPV<|ps.getD i (0,0)) (vs.getD i .none):=λ{ps}=>by
   induction ps with
   |nil=>exact λo0 i t=>absurd t<|Kw i
   |cons p ps W=>
    rintro vs ⟨v,U,rfl,r,M⟩ i t
    rcases i with o0|i
    ·exact r
    ·exact W M i<|Nat.lt_of_succ_lt_succ t
  generalize ((srtO ps).getD #[]).toList=l at a ⊢
  induction l with
  |nil=>rfl
  |cons i l W=>exact⟨_,_,rfl,at_ hv i<|a i (.head _),W λj H=>a j<|.tail _ H⟩
theorem tx{ps:List (Int×Int)}(m:Sim C σ s.heap)(e:σ a=Ja (.list l))(p:ig l=Ja ps)(c:chkP ps=Jc)(q:wlist ((srtP ps).map prPV) σ Q):
  Jh (Mo C) A (call (.builtin "sorted") [.ref a]) (VP C none1 σ s Q) Er s:=by
 obtain⟨v,k,N,h⟩:=m.list e;obtain⟨P,rfl,F⟩:=ud p h;refine n9 (vs:=v.toList) (by rw[Array.toArray_toList];exact⟨_,N,rfl,k,rfl⟩) P F c ?_;obtain⟨S,O⟩:=sortedAll_at s.heap v.toList (outL ps v.toList).toArray;exact VP.keptNew (o:= .list ((srtP ps).map prPV)) m (λo0 o0=>sortedAll_old) ⟨rfl,rfl⟩ (Wb<|Wo _) O (λX t=>⟨_,S,rfl,by rw[List.toList_toArray];exact xA (h.step t) c⟩) q.2 trivial
end
end
section
open PySem.W
noncomputable def hsh(i j:Int):Int:=reduceHash<|Builtin.Tuple.tupleHashOf [hashInt i,hashInt j]
theorem uo:((Qc 64).map λi=>hsh ((i / 8:Nat):Int) ((i % 8:Nat):Int)).Nodup:=by decide+kernel
theorem rW{L:Type}{l:List L}(h:l.Nodup){i j:Nat}{a:L}(N:l[i]? =Ja a)(p:l[j]? =Ja a):i=j:=by
 obtain⟨o,q⟩:=QK.mp N;obtain⟨r,Z⟩:=QK.mp p;exact(List.getElem_inj h).mp (q.trans Z.symm)
theorem zA{a b c d:Nat}(h:a=c)(k:b=d):hsh a b=hsh c d:=by subst h k;rfl
theorem u8{a b Y b':Nat}(E:a<8)(p:b<8)(J:Y<8)(h:b'<8)(e:hsh a b=hsh Y b'):a=Y/\b=b':=by
 have N:=uo;generalize w:(λi:Nat=>hsh ((i / 8:Nat):Int) ((i % 8:Nat):Int))=f at N;have at_:∀x y:Nat,x<8->y<8->((Qc 64).map f)[8*x+y]? =Ja (hsh x y):=λx y hx W=>by
  have u:f (8*x+y)=hsh x y:=(congrFun w<|8*x+y).symm.trans (zA (zh1 W)<|zh2 W);have T:(Qc 64)[8*x+y]? =Ja (8*x+y):=Wk<|zh3 hx W;exact(Qu (f:=f) (l:=Qc 64) (i:=8*x+y)).trans ((Ub (Wx f) T).trans (Ub Ja u))
 have:=rW N (at_ a b E p)<|(at_ Y b' J h).trans (Ub Ja e.symm);exact⟨(zh1 p).symm.trans ((Ub (· / 8) this).trans (zh1 h)),(zh2 p).symm.trans ((Ub (· % 8) this).trans (zh2 h))⟩
theorem rM{prog:Jn}{w:Jm}{k v:List KA}(h:df k=Jc)(S:df v=Jc)(e:(tk prog w).hash k=(tk prog w).hash v):k=v:=by
 obtain⟨a,b,rfl,N,p⟩:=iz h;obtain⟨Y,c,rfl,J,O⟩:=iz S;obtain⟨rfl,rfl⟩:=u8 N p J O (show hsh a b=hsh Y c from e);rfl
theorem kG{L:Type}{f:L->Int}:∀ {l:List L},(l.map f).Nodup->(l.filter λx=>f x==c).length<=1
 |[]=>λo0=>QN _
 |a::l=>λh=>by
  obtain⟨N,Y⟩:=QA.mp h;by_cases q:(f a==c)=Jc
  ·rw[QX (p:=λx=>f x==c) q];have:l.filter (λx=>f x==c)=[]:=List.filter_eq_nil_iff.mpr λx hx z=>N<|Qi.mpr ⟨x,hx,(Y9 z).trans (Y9 q).symm⟩;rw[this];exact Qz _
  ·rw[QY (p:=λx=>f x==c) q];exact kG Y
section
variable{C:Cx}{σ:PH}{s:Je}{A:Jj}{Er:Jf->Je->Prop}
theorem sF{Q:Bool->Je->Prop}(q:(tk C.prog C.w).is s.heap k a)(h:Q Jd s):Jh (Mo C) A (Builtin.Dict.quietEq (.ref a)) Q Er s:=by
 show Jh _ _ (specialOf (.ref a) "__eq__">>=_) _ _ _;exact YG<|wpAny_specialOf (show s.TypeIs (.ref a) "tuple" from IsTupleKey.typeIs q) F.slot_tuple_eq.lookup (YH h)
theorem ol{id:String}{d:Jg}{o:Jp}{es:Array JN}{ep:Nat}{xs:List (List KA×Jg×Jf)}{Q:Array JN->Je->Prop}(w:s.heap.get? d=Ja o)(v:o.data= .dict es ep)(O:es.toList=xs.map (JL (tk C.prog C.w)))(hi:∀x∈xs,(tk C.prog C.w).is s.heap x.1 x.2.1)
  (c:(xs.map (·.1)).Nodup)(E:∀x∈xs,df x.1=Jc)(h:Q es s):Jh (Mo C) A (Builtin.Dict.entriesForEmpty id d) Q Er s:=by
 have n:(es.toList.map (·.hash)).Nodup:=by
  rw[O,Qx];have:xs.map ((λx=>x.hash)∘JL (tk C.prog C.w))=(xs.map (·.1)).map (tk C.prog C.w).hash:=by rw[Qx];rfl
  rw[this,QU,Wu];rw[QU] at c;refine c.imp_of_mem λ{a b} T R Y q=>Y ?_;obtain⟨x,hx,rfl⟩:=Qi.mp T;obtain⟨y,W,rfl⟩:=Qi.mp R;exact rM (E x hx) (E y W) q
 unfold Builtin.Dict.entriesForEmpty;refine YG<|wpAny_dictEntries w v ?_;refine YG ?_;rw[<-Array.forIn_toList];refine wpAny_forIn_list _ (λr o0 g=>g=s/\∀e∈r,e∈es.toList) _ ?_ ?_ _ _ ⟨rfl,λo0 e=>e⟩
 ·rintro e r b g ⟨rfl,l⟩;obtain⟨x,hx,rfl⟩:=Qi.mp<|O▸l e KZ;refine YG<|sF (hi x hx) ?_;have D:¬ (es.filter (·.hash==(JL (tk C.prog C.w) x).hash)).size>1:=by
   rw[<-WY,Array.toList_filter];exact QT.mpr<|kG n
  refine wy rfl<|wn D (YH ⟨rfl,λN S=>l N<|KB _ S⟩)
 ·rintro b g ⟨rfl,o0⟩;exact YH h
theorem sg{nm:String}{d o:Jg}{v X:Jp}{es:Array JN}{xs:List (List KA×Jg×Jf)}{Q:Unit->Je->Prop}(V:d≠o)(S:(o==JC)=Jd)(Y:s.heap.get? d=Ja v)(I:v.data= .dict #[] p)
  (w:s.heap.get? o=Ja X)(W:X.data= .dict es ep)(O:es.toList=xs.map (JL<|tk C.prog C.w))(hi:∀x∈xs,(tk C.prog C.w).is s.heap x.1 x.2.1)(g:(xs.map (·.1)).Nodup)(E:∀x∈xs,df x.1=Jc)(n:xs≠ [])(hsz:xs.length<=JJ)
  (h:Q () {s with heap:=s.heap.update d (Obj.mapDictKeys λo0=>es)}):Jh (Mo C) A (Builtin.Dict.mergeDict nm d o) Q Er s:=by
 have l:es.size=xs.length:=J6 O;have i:es.size≠0:=λq=>n<|Yk.mp (l.symm.trans q);unfold Builtin.Dict.mergeDict;refine wn (λq=>V<|eq_of_beq q) ?_;unfold Builtin.Dict.showsAll;refine YG<|wn (c:=(o==JC)=Jc) (by rw[S];exact QF) (YH ?_);refine YG<|wpAny_dictEntries w W ?_;have f:(es.all λe=>(keyPart e.key).isSome)=Jd:=by
  obtain⟨x,r,rfl⟩:=WW n;rw[<-Array.all_toList,O,Qw,List.all_cons];rfl
 refine wy (by rw[f,YE];rfl) ?_;refine YG<|wpAny_dictEntries Y I ?_;refine wy rfl ?_;refine YG<|ol w W O hi g E ?_;refine wy (by rw[show es.isEmpty=Jd from by rw[Array.isEmpty_eq_false_iff];exact λq=>i (by rw[q];rfl)];rfl) ?_;exact YG<|wpAny_updateDictKeysTo Y I (YH h) (by rw[l];exact Qq hsz<|Wo _)
theorem uj{ks:List (List KA)}(m:Sim C σ s.heap)(e:σ a=Ja (.dict ks l))(hz:ks≠ []/\ks.length<=lim/\∀k∈ks,df k=Jc)(q:wnew (.dict ks l) σ Q)(N:s.heap.objs.size≠JC):
  Jh (Mo C) A (call (.type "dict") [.ref a]) (VP C none1 σ s Q) Er s:=by
 obtain⟨P,D⟩:=m.dict e;obtain⟨o,U,p,g,R,E,J,L,M⟩:=D.of;have r:P.length=ks.length:=by rw[<-D.ks,Qd]
 have d:s.heap.objs.size≠a:=λq=>absurd (QS g) (by rw[q];exact KG _);refine callType_codes (Q₁:=λobj w=>obj= .ref s.heap.objs.size/\w={s with heap:=s.heap.push {cls:= .type "dict",data:= .dict #[]}}) F.kt_called_dict (F.kt_typeCall_dict_1 _) F.entry_dict_init (kt_code_dict_new _ ⟨rfl,rfl⟩) ?_;rintro obj w ⟨rfl,rfl⟩;have T:(⟨s.heap.push {cls:= .type "dict",data:= .dict #[]},s.gens,s.drawn,s.toks,s.os⟩:Je).TypeIs (.ref s.heap.objs.size) "dict":=⟨_,QL _ rfl,rfl⟩
 have X:(s.heap.push {cls:= .type "dict",data:= .dict #[]}).get? a=Ja o:=Qm _ g;have hTo:(⟨s.heap.push {cls:= .type "dict",data:= .dict #[]},s.gens,s.drawn,s.toks,s.os⟩:Je).TypeIs (.ref a) "dict":=⟨_,X,R.1⟩
 refine⟨T,F.args_dict_init_2 _ _,?_⟩;unfold Builtin.«dict.__init__»;refine YG ?_;unfold Builtin.Dict.selfAndRest;refine YG<|wpAny_notOrdered_dict T ?_;show Jh _ _ (pure (s.heap.objs.size,[Value.ref a])) _ _ _;refine YH ?_;show Jh _ _ (Builtin.Dict.updateFrom "dict.__init__" s.heap.objs.size (.ref a) [] .none) _ _ _;unfold Builtin.Dict.updateFrom;refine YG<|wpAny_typeOf hTo ?_;refine wn (by decide) ?_;refine YG ?_;unfold Builtin.Dict.merge;refine YG ?_;unfold Builtin.Dict.readDirectly;refine YG<|wpAny_isInstance hTo isSubtype_dict_dict ?_;refine wn (by decide) ?_;refine YG<|wpAny_specialOf hTo F.slot_dict_iter.lookup (YH ?_);refine wy (by decide+kernel) ?_;refine YG<|YH ?_;refine sg d D.sys (QL _ rfl) rfl X E J (λx hx=> ?_) M (λx hx=>hz.2.2 _<|D.ks▸Qi.mpr ⟨x,hx,rfl⟩) (λq=>hz.1<|by rw[<-D.ks,q];rfl) (by rw[r,JU];exact zb2 hz.2.1 rfl) ?_
 ·exact((D.ka x hx).step (Step.push none1 σ s.heap _)).is
 show Jh _ _ (Builtin.Dict.addKeywords s.heap.objs.size []>>=_) _ _ _;refine YG<|YH (YH ⟨rfl,?_⟩);have kp:∀b W,s.heap.get? b=Ja W->((s.heap.push {cls:= .type "dict",data:= .dict #[]}).update s.heap.objs.size (Obj.mapDictKeys λo0=>U)).get? b=Ja W:=λb W h=>(WA _ _ _ _<|WE (QS h)).trans (Qm _ h);refine VP.keptNew (o:= .dict ks l) m kp ⟨rfl,rfl⟩ (jU _) (Ki _ (QL _ rfl) rfl) (λY t=> ?_) q N;exact⟨U,_,P,⟨rfl,rfl,rfl⟩,rfl,J,D.ks,D.ks▸M,λy S=>(D.ka y S).step t,D.v.step t⟩
end
end
noncomputable def bty:List String:=["int","bool","list","tuple","dict"]
section
variable{C:Cx}{A:Jj}{Er:Jf->Je->Prop}{σ:PH}{s:Je}{Q:Post}{n:Nat}{fr:List Js}
theorem lK(h:T∈bty):YT (.type "NoneType") (.type T)=pure Jd:=by
 rw[JP];simp only[bty,QB,KC,or_false] at h
 rcases h with rfl|rfl|rfl|rfl|rfl<;>kernel_rfl
theorem vL(h:T∈bty):YT (.type "str") (.type T)=pure Jd:=by
 rw[JP];simp only[bty,QB,KC,or_false] at h
 rcases h with rfl|rfl|rfl|rfl|rfl<;>kernel_rfl
theorem sub_int(h:T∈bty):YT (.type "int") (.type T)=pure (decide (T="int")):=by
 rw[JP];simp only[bty,QB,KC,or_false] at h
 rcases h with rfl|rfl|rfl|rfl|rfl<;>kernel_rfl
theorem mY(h:T∈bty):YT (.type "bool") (.type T)=pure (decide (T="bool")||decide (T="int")):=by
 rw[JP];simp only[bty,QB,KC,or_false] at h
 rcases h with rfl|rfl|rfl|rfl|rfl<;>kernel_rfl
theorem nB(h:T∈bty):YT (.type "list") (.type T)=pure (decide (T="list")):=by
 rw[JP];simp only[bty,QB,KC,or_false] at h
 rcases h with rfl|rfl|rfl|rfl|rfl<;>kernel_rfl
theorem kT(h:T∈bty):YT (.type "tuple") (.type T)=pure (decide (T="tuple")):=by
 rw[JP];simp only[bty,QB,KC,or_false] at h
 rcases h with rfl|rfl|rfl|rfl|rfl<;>kernel_rfl
theorem dj(h:T∈bty):typeOf (.type T)=pure (.type "type"):=by
 simp only[bty,QB,KC,or_false] at h
 rcases h with rfl|rfl|rfl|rfl|rfl<;>kernel_rfl
theorem dz(h:U≠T):(Value.type T==Value.type U)=Jd:=by
 have:Value.type T≠Value.type U:=λe=>h<|by injection e with e;exact e.symm
 simpa using this
theorem xD(Y:T∈bty)(m:Sim C σ s.heap)(r:VR C σ s.heap p v)(H:isiV G σ p [T]=Ja b)(q:Q (.bool b) σ):
  Jh (Mo C) A (call (.builtin "isinstance") [v,.type T]) (VP C none1 σ s Q) Er s:=by
 have f:∀tk,VP C none1 σ s Q (.bool b) {s with toks:=tk}:=λtk=>VP.here m rfl ⟨rfl,rfl⟩ fg q
 induction p using PV.casesOn with
 |none=>
  change _=_ at r;subst r;obtain rfl:=sj (show Ja Jd=Ja b from H);have c:T≠"NoneType":=by rintro rfl;exact absurd Y<|by decide
  exact Jz (S:=λo0 R s=>(λs:Je=>s.TypeIs .none "NoneType") s/\∀K,R (.ok<|.ret (.bool Jd)) {s with toks:=K})
   (λo0 o0 o0 o0 o0 E=>isinstance_outer<|Answers.of_false_none (dz c) (dj Y) (lK Y) 0 0 _ _ _ _ _ E) ⟨rfl,f⟩
 |str x=>
  obtain⟨t,rfl⟩:=r;obtain rfl:=sj (show Ja Jd=Ja b from H);have c:T≠"str":=by rintro rfl;exact absurd Y<|by decide
  exact Jz (isinstance_false_str (dz c) (dj Y)<|vL Y)<|f _
 |int i=>
  obtain⟨t,rfl⟩:=r;replace H:=Option.some.inj (show Ja ([T].contains "int")=Ja b from H);simp only[KY,Yo,Bool.or_false] at H;by_cases h:T="int"
  ·subst h;have:b=Jc:=by rw[<-H];decide
   subst this;exact Jz (J7 (dj Y)<|by rw[sub_int Y];rfl) ⟨typeIs_int _ _ _,f _⟩
  ·have:b=Jd:=by rw[<-H];simpa using λe=>h e.symm
   subst this;exact Jz (isinstance_false_int (dz h) (dj Y)<|by rw[sub_int Y];simp[h])<|f _
 |bool x=>
  change _=_ at r;subst r;replace H:=Option.some.inj (show Ja ([T].contains "bool"||[T].contains "int")=Ja b from H);simp only[KY,Yo,Bool.or_false] at H;by_cases h:T="bool"\/T="int"
  ·have:b=Jc:=by rw[<-H];rcases h with rfl|rfl<;>decide
   subst this;exact Jz (J7 (Tx:="bool") (dj Y) (by rw[mY Y];rcases h with rfl|rfl<;>rfl)) ⟨rfl,f _⟩
  ·have N:T≠"bool":=λe=>h<|.inl e;have B:T≠"int":=λe=>h<|.inr e;have:b=Jd:=by rw[<-H];simp[Ne.symm N,Ne.symm B]
   subst this;exact Jz (isinstance_false_bool (dz N) (dj Y)<|by rw[mY Y];simp[N,B])<|f _
 |tup l=>
  obtain⟨a,k,w,rfl,o0,N,o0⟩:=r;replace H:=Option.some.inj (show Ja ([T].contains "tuple")=Ja b from H);simp only[KY,Yo,Bool.or_false] at H;by_cases h:T="tuple"
  ·subst h;have:b=Jc:=by rw[<-H];decide
   subst this;exact Jz (J7 (Tx:="tuple") (dj Y)<|by rw[kT Y];rfl) ⟨⟨_,N,rfl⟩,f _⟩
  ·have:b=Jd:=by rw[<-H];simpa using λe=>h e.symm
   subst this;exact Jz (isinstance_false_tuple (dz h) (dj Y)<|by rw[kT Y];simp[h]) ⟨⟨_,N,rfl⟩,f _⟩
 |ref a=>
  change _=_ at r;subst r;replace H:isiO G [T] (σ a)=Ja b:=H
  induction M:σ a with
  |none=>rw[M] at H;exact onx H
  |some o=>
  rw[M] at H
  induction o with
  |list l=>
   replace H:=Option.some.inj (show Ja ([T].contains "list")=Ja b from H);simp only[KY,Yo,Bool.or_false] at H;obtain⟨w,k,N,o0⟩:=m.list M;by_cases h:T="list"
   ·subst h;have:b=Jc:=by rw[<-H];decide
    subst this;exact Jz (J7 (Tx:="list") (dj Y)<|by rw[nB Y];rfl) ⟨⟨_,N,rfl⟩,f _⟩
   ·have:b=Jd:=by rw[<-H];simpa using λe=>h e.symm
    subst this;exact Jz (isinstance_false_list (dz h) (dj Y)<|by rw[nB Y];simp[h]) ⟨⟨_,N,rfl⟩,f _⟩
  |_=>exact onx H
 |scr l=>exact onx H
end
theorem kY(h:place n k=Ja j):seqIndex? k n=Ja j/\j<n:=by
 unfold place at h;unfold seqIndex?
 split at h
 ·rename_i i
  split at h
  ·rename_i N
   obtain rfl:=sj h;refine⟨?_,by exact(WF i).mpr N⟩;simp only[show ¬k<0 by exact Kz.mpr i,if_false];rw[Y8 (by simp only[QZ,Ua];exact⟨i,N⟩)]
  ·exact ns h
 ·rename_i i
  split at h
  ·rename_i N
   obtain rfl:=sj h;refine⟨?_,by exact(WF N).mpr (zng i)⟩;simp only[show k<0 by exact Yp.mp i,if_true];rw[Y8 (by simp only[QZ,Ua];exact⟨N,zng i⟩)]
  ·exact ns h
theorem j5(h:place n k=Ja j): -(n:Int)<=k/\k<n:=by
 unfold place at h;by_cases i:0<=k
 ·rw[Y8 i] at h;by_cases N:k<n
  ·exact⟨QE (Int.neg_nonpos_of_nonneg<|QP _) i,N⟩
  ·rw[Y7 N] at h;exact ns h
 ·rw[Y7 i] at h;by_cases N:0<=k+n
  ·exact⟨Int.add_nonneg_iff_neg_le.mp N,KL (Yp.mp i)<|QP _⟩
  ·rw[Y7 N] at h;exact ns h
theorem kU{k:Int}(i:0<=k)(h:place n k=Ja j):j=k.toNat:=by
 unfold place at h;rw[Y8 i] at h
 split at h
 ·obtain rfl:=sj h;rfl
 ·exact ns h
theorem qA(i:¬0<=k)(h:place n k=Ja j):j=(k+n).toNat:=by
 unfold place at h;rw[Y7 i] at h
 split at h
 ·obtain rfl:=sj h;rfl
 ·exact ns h
section
variable{C:Cx}{A:Jj}{Er:Jf->Je->Prop}{σ:PH}{s:Je}{Q:Post}{n:Nat}{fr:List Js}
theorem kv(slice:Jl)(o i:Jf):∃ops,subscripted slice Jd o i=operate ops (getItem o i):=by
 induction slice using Expr.casesOn with
 |Slice l u st p=>induction st with
  |none=>exact⟨_,rfl⟩
  |some x=>exact⟨_,rfl⟩
 |_=>exact⟨_,rfl⟩
theorem iK{vs:Array Jf}{R:Jf->Je->Prop}(l:s.heap.IsList a vs)(hz:vs.size<=10000000)(H:place vs.size k=Ja j)(hx:vs[j]? =Ja x)(h:R x s):
  Jh (Mo C) A (getItem (.ref a)<|.int k t) R Er s:=by
 obtain⟨b,V⟩:=j5 H;by_cases i:0<=k
 ·have e:=kU i H;subst e;exact wpAny_getItem_list l i (by exact zi1 hz V) hx h
 ·have e:=qA i H;subst e;exact wpAny_getItem_list_neg l (by exact Yp.mp i) b (by exact zi2 hz b) hx h
theorem us(u:A.units+100<cLine)(m:Sim C σ s.heap)(e:σ a=Ja (.dict ks l))(r:VR C σ s.heap i w)(M:keyOf i=Ja k)(hx:klook ks l k=Ja x)
  (q:Q x σ):Jh (Mo C) A (PyProof.Rows.subscriptTail v c (.ref a) w) (VP C none1 σ s Q) Er s:=by
 obtain⟨P,D⟩:=m.dict e;obtain⟨b,rfl,R⟩:=jZ M r
 rcases D.look (k:=k) with⟨z,o0⟩|⟨p,y,z1,z2,z3⟩
 ·exact sn<|hx.symm.trans z
 ·obtain rfl:=sj<|hx.symm.trans z1;obtain⟨o,h⟩:=kv c (.ref a)<|.ref b;exact PyProof.Rows.tail_any (T:="dict") D.of.typeIs slot_dict_getitem.lookup (wpAny_getItem_heap (gZ u) R.is D.of z2<|VP.here m rfl ⟨rfl,rfl⟩ z3 q) h
theorem xb(m:Sim C σ s.heap)(r:VR C σ s.heap p v)(V:VR C σ s.heap i w)(e:psub σ p i=Ja x)(hz:∀k,plen σ p=Ja k->k<=10000000)
  (q:Q x σ):Jh (Mo C) A (PyProof.Rows.subscriptTail g c v w) (VP C none1 σ s Q) Er s:=by
 induction p using PV.casesOn with
 |ref a=>
  change _=_ at r;subst r;replace e:psubO i (σ a)=Ja x:=e
  induction M:σ a with
  |none=>rw[M] at e;exact onx e
  |some o=>
  rw[M] at e
  induction o with
  |list l=>
   replace e:psubL l i=Ja x:=e
   induction i using PV.casesOn with
   |int k=>
   replace e:((place l.length k).bind λj=>l[j]?)=Ja x:=e;obtain⟨t,rfl⟩:=V;obtain⟨J,X,N,Y⟩:=m.list M;have b:J.size=l.length:=by simpa using Y.length
   obtain⟨j,H,hx⟩:=Qn.mp e;obtain⟨Z,L,R⟩:=Y.get j x hx;obtain⟨z,d⟩:=kv c (.ref a)<|.int k t;have h:=hz l.length (by show lenO (σ a)=_;rw[M];rfl);exact PyProof.Rows.tail_any (T:="list") ⟨_,N,rfl⟩ slot_list_getitem.lookup
    (iK ⟨_,N,rfl,X,rfl⟩ (by exact zle (Kd b) h) (by rw[b];exact H) (by simpa using L)<|VP.here m rfl (Rest.refl s) R q) d
   |_=>exact onx e
  |_=>exact onx e
 |tup l=>
  induction i using PV.casesOn with
  |int k=>
   replace e:((place l.length k).bind λj=>l[j]?)=Ja x:=e;obtain⟨a,X,J,rfl,D,N,Y⟩:=r;obtain⟨t,rfl⟩:=V;have b:J.size=l.length:=by simpa using Y.length
   obtain⟨j,H,hx⟩:=Qn.mp e;obtain⟨Z,L,R⟩:=Y.get j x hx;obtain⟨z,d⟩:=kv c (.ref a)<|.int k t;have h:=hz l.length rfl;obtain⟨K,W⟩:=j5 H;exact PyProof.Rows.tail_any (T:="tuple") ⟨_,N,rfl⟩ F.slot_tuple_getitem.lookup
    (P.getItem_tuple N (by exact zi2 h K) (by exact zi1 h W) (by rw[b];exact(kY H).1) (by simpa using L)<|VP.here m rfl (Rest.refl s) R q) d
  |_=>first|exact bnx e|exact onx e|cases e
 |scr l=>
  induction i using PV.casesOn with
  |int k=>
   replace e:(((place l.length k).bind λj=>l[j]?).map PV.int)=Ja x:=e;obtain⟨a,o,X,J,rfl,N,Y,G,b,f⟩:=r;obtain⟨t,rfl⟩:=V;obtain⟨y,E,rfl⟩:=Qs.mp e;obtain⟨j,H,hx⟩:=Qn.mp E;obtain⟨u,O⟩:=f j y hx;obtain⟨z,d⟩:=kv c (.ref a)<|.int k t;have h:=hz l.length rfl;exact PyProof.Rows.tail_any (T:="list") ⟨_,m.base _ _ N,Y⟩ slot_list_getitem.lookup
    (iK ⟨_,m.base _ _ N,Y,X,G⟩ (by exact zle (Kd b) h) (by rw[b];exact H) O<|VP.here m rfl (Rest.refl s) (cX _) q) d
  |_=>first|exact bnx e|exact onx e|cases e
 |_=>first|exact bnx e|exact onx e|cases e
theorem kP{vs:Array Jf}{R:Unit->Je->Prop}(T:s.heap.get? l=Ja (lstO vs X))(hz:vs.size<=10000000)(H:place vs.size k=Ja j)
  (h:R () {s with heap:=s.heap.update l (Obj.mapSeq (·.setIfInBounds j v))}):Jh (Mo C) A (setItem (.ref l) (.int k t) v) R Er s:=by
 have Y:s.TypeIs (.ref l) "list":=⟨_,T,rfl⟩
 obtain⟨N,E⟩:=j5 H;obtain⟨d,S⟩:=kY H;have hx:vs[j]? =Ja vs[j]:=KI S;have V:Builtin.List.listFitsIndex k=Jc:=by
  unfold Builtin.List.listFitsIndex;simp only[QZ,Ua];exact⟨zi2 hz N,zi1 hz E⟩
 unfold setItem
 try with_reducible refine YJ ?_
 first|refine YG (YH ?_)|skip
 refine YG (wpAny_sequenceKey Y (by decide) ?_);refine YG (wpAny_callSpecial?_slot (name:=Qb "__setitem__") Y slot_list_setitem
  (YM slot_list_setitem Y entry_list_setitem ?_ (args_list_setitem _ _ _)))
 show Jh _ _ (Builtin.List.listSubscript? (.int k t)>>=_) _ _ s;refine YG<|wpAny_listSubscript_int V ?_;have F:Jh (Mo C) A.in1.in1 (setSeqItemAt l j v>>=λo0=>ret .none) (λf g=>∃w,f= .done (.ret w)/\Jh (Mo C) A (pure ()) R Er g) Er s:=
  YG (YW T rfl<|YH ⟨.none,rfl,YH h⟩)
 clear V
 induction k with
 |ofNat i=>
  have b:j=i:=kU (QP i) H;subst b;show Jh _ _ ((seqItemAt l j>>=λr=>pure (r.map (j,·)))>>=_) _ _ s;refine YG<|YG (wpAny_seqItemAt T rfl<|YH ?_);rw[hx];show Jh _ _ (setSeqItemAt l j v>>=_) _ _ s;refine YG<|wpAny_setSeqItemAt T rfl ?_
  first
   |exact YG<|YH (YH ⟨.none,rfl,YH h⟩)
   |exact YH ⟨.none,rfl,YH h⟩
 |negSucc i=>
  show Jh _ _ ((Builtin.List.listItems (.ref l)>>=λx=>pure ((seqIndex? (Int.negSucc i) x.size).bind λi=>x[i]?.map (i,·)))>>=_) _ _ s;refine YG<|YG ?_;show Jh _ _ (seqItems? (.ref l)>>=_) _ _ s;refine YG<|wpAny_seqItems T rfl (YH<|YH ?_);rw[d];simp only[KO,hx,Wg];refine YG<|wpAny_setSeqItemAt T rfl ?_
  first
   |exact YG<|YH (YH ⟨.none,rfl,YH h⟩)
   |exact YH ⟨.none,rfl,YH h⟩
end
abbrev EOK(C:Cx)(A:Jj)(σ:PH)(s:Je)(t:Sem Jf)(Q:Post)(X:XPost):Prop:=Jh (Mo C) A t (VP C none1 σ s Q) (XP C none1 σ s X) s
abbrev EOKs(C:Cx)(A:Jj)(σ:PH)(s:Je)(t:Sem (List Jf))(Q:List PV->PH->Prop)(X:XPost):Prop:=Jh (Mo C) A t (VPs C none1 σ s Q) (XP C none1 σ s X) s
section
variable{C:Cx}{A:Jj}{σ:PH}{s:Je}{Q:Post}{X:XPost}
theorem EOK.then{R:Jf->Je->Prop}(h:EOK C A σ s t Q' X)
  (k:∀v W p σ1,VR C σ1 W.heap p v->Sim C σ1 W.heap->Step none1 σ s.heap σ1 W.heap->Rest s W->Q' p σ1->R v W):Jh (Mo C) A t R (XP C none1 σ s X) s:=
 VP.to h k λo0 o0 x=>x
theorem EOK.after{d:PH}{s₁:Je}(st:Step none1 σ s.heap d s₁.heap)(r:Rest s s₁)(h:EOK C A d s₁ t Q X):Jh (Mo C) A t (VP C none1 σ s Q) (XP C none1 σ s X) s₁:=
 YI h (λo0 o0 x=>VP.from st r x) λo0 o0 x=>XP.from st r x
end
section
variable{C:Cx}{G:Gx}{mg mb:Jq->Option Jf}{A:Jj}{env:Js}{ρ:Rho}{σ:PH}{s:Je}{Q:Post}{X:XPost}
noncomputable def dw:List Jl->Bool
 |[]=>Jc
 | .Starred .. ::_=>Jd
 |_::r=>dw r
theorem f6(hy:∀z q,y≠ .Starred z q)(hr:dw r=Jc):dw (y::r)=Jc:=by
 induction y using Expr.casesOn with
 |Starred z q=>exact absurd rfl<|hy z q
 |_=>exact hr
theorem ch(h:∀x p,e≠ .Starred x p):JD (e::r) env=(Jd,Jw e env)::JD r env:=by
 rcases e with⟨⟩<;>first|rfl|exact absurd rfl<|h _ _
theorem il:∀ {es:List Jl},dw es=Jc->(JW pos (JD es env)).any (·.1)=Jd
 |[]=>λo0=>rfl
 |e::r=>λh=>by
  have n:∀x p,e≠ .Starred x p:=by rintro x p rfl;exact ft h
  have T:dw r=Jc:=by rcases e with⟨⟩<;>first|exact h|exact ft h
  rw[ch n];have:=il (pos:=pos) T;simp only[JW,Qw,List.any_cons,Bool.false_or] at this ⊢;exact this
theorem cW{R:Jf->Je->Prop}{Er:Jf->Je->Prop}(kp:Kp C f)(D:dw es=Jc)
  (h:Jh (Mo C) A (spliced<|backTo pos (JD es env)) (λvs s₁=>(∀b o,C.B.get? b=Ja o->s₁.heap.get? b=Ja o)/\Jh (Mo C) A (call f<|first++vs) R Er s₁) Er s):
  Jh (Mo C) A (callWith pos f first (JW pos<|starEach es env)<|backToKw pos (J1 [] env)) R Er s:=by
 obtain⟨k,q,L⟩:=kp;refine W.callWith_of (P:=λh=>∀b o,C.B.get? b=Ja o->h.get? b=Ja o) ?_ (λh v=>⟨k,q,L.keeps v⟩) ?_
 ·rw[il D];rfl
 ·induction es using List.casesOn with
  |nil=>
   show Jh (Mo C) A (evalArgs f Jc [] []) _ _ s;unfold evalArgs;show Jh (Mo C) A (spliced []>>=_) _ _ s;refine YG (YI h (λvs g S=> ?_) λo0 o0 x=>x);exact YG<|YH (YJ<|YG (YH<|YG (YH<|YH S)))
  |cons e r=>
   have n:∀x p,e≠ .Starred x p:=by rintro x p rfl;exact ft D
   rw[ch n] at h ⊢;exact Calls.evalArgs_plain h
end
noncomputable def BI.val:BI->Jf
 | .len=> .builtin "len"| .all=> .builtin "all"| .sum=> .builtin "sum"| .int=> .type "int"| .list=> .type "list"| .min=> .builtin "min"| .sorted=> .builtin "sorted"| .dict _=> .type "dict"| .max=> .builtin "max"| .min2=> .builtin "min"| .sortp=> .builtin "sorted"
theorem BI.kp(C:Cx)(b:BI):Kp C b.val:=by
 rcases b with o0|o0|o0|o0|o0|o0|o0|⟨⟨⟩⟩|o0|o0|o0<;>exact⟨.machine,.inr<|.inl rfl,W.Looks.of_pure rfl⟩
theorem BI.boot(b:BI):YX (Qb b.nm)=Ja b.val:=by
 rcases b with o0|o0|o0|o0|o0|o0|o0|⟨⟨⟩⟩|o0|o0|o0<;>decide+kernel
theorem BI.mem(b:BI):b.nm∈bltNames:=by
 rcases b with o0|o0|o0|o0|o0|o0|o0|⟨⟨⟩⟩|o0|o0|o0<;>decide
section
variable{C:Cx}{A:Jj}{Er:Jf->Je->Prop}{σ:PH}{s:Je}{Q:Post}
theorem VRs.one(r:VRs C σ h [p] vs):∃v,vs=[v]/\VR C σ h p v:=by
 obtain⟨v,q,rfl,N,rfl⟩:=r;exact⟨v,rfl,N⟩
theorem VRs.two(r:VRs C σ h [p,q] vs):X2 λv w=>A3 (vs=[v,w]) (VR C σ h p v) (VR C σ h q w):=by
 obtain⟨v,q,rfl,N,w,r,rfl,Y,rfl⟩:=r;exact⟨v,w,rfl,N,Y⟩
theorem Aa{b:BI}{args:List PV}(U:A.handled=Jb)(d:A.units+100<cLine)(m:Sim C σ s.heap)(r:VRs C σ s.heap args vs)(w:wbi b args σ Q)(W:s.heap.objs.size≠JC):
  Jh (Mo C) A (call b.val vs) (VP C none1 σ s Q) Er s:=by
 have F:∀ {K:PV->Prop} {f:Jf},on1 K args->(∀p v,K p->VR C σ s.heap p v->Jh (Mo C) A (call f [v]) (VP C none1 σ s Q) Er s)->Jh (Mo C) A (call f vs) (VP C none1 σ s Q) Er s:=λw k=>by
  obtain⟨p,rfl,w⟩:=vI w;obtain⟨v,rfl,S⟩:=r.one;exact k p v w S
 have E:∀ {K:List PV->Prop} {p:PV} {v:Jf} {f:Jf},onL σ K p->VR C σ s.heap p v->(∀a l,K l->σ a=Ja (.list l)->Jh (Mo C) A (call f [.ref a]) (VP C none1 σ s Q) Er s)->Jh (Mo C) A (call f [v]) (VP C none1 σ s Q) Er s:=λw S k=>by
  obtain⟨a,l,rfl,e,j⟩:=gP w;rw[show _=Value.ref a from S];exact k a l j e
 induction b with
 |len=>
  exact F w λp v w S=>by
   obtain⟨n,e,w⟩:=gA w;exact yr m S e w.1 w.2
 |all=>
  exact F w λp v w S=>E w S λa l w e=>by
   obtain⟨bs,h,w⟩:=pV w;exact wY U m e h w
 |sum=>
  exact F w λp v w S=>E w S λa l w e=>by
   obtain⟨bs,h,w⟩:=iu w;exact yV U m e h w
 |int=>
  exact F w λp v w S=>by
   obtain⟨x,rfl,w⟩:=j7 w;rw[show v= .bool x from S];exact call_int_bool<|VP.here m rfl ⟨rfl,rfl⟩ (cX _) w
 |list=>
  exact F w λp v w S=>by
   rcases w with w|w
   ·obtain⟨a,L,l,rfl,e,j⟩:=gY w;rw[show v= .ref a from S];exact sP U m e j.1 j.2
   rcases vX w with⟨l,rfl,w⟩|⟨a,l,rfl,e,B⟩
   ·obtain⟨a,k,vs,rfl,O,N,Y⟩:=S;exact ph (.inr rfl) m N Y w.1 w.2
   ·rw[show v= .ref a from S];obtain⟨vs,k,N,Y⟩:=m.list e;exact ph (.inl rfl) m N Y B.1 B.2
 |min=>
  exact F w λp v w S=>E w S λa l w e=>by
   obtain⟨is,i,w⟩:=iu w;exact xE U m e i w.1 w.2
 |sorted=>
  exact F w λp v w S=>E w S λa l w e=>by
   obtain⟨is,i,w⟩:=iu w;exact qH m e i w.1 w.2
 |max=>
  exact F w λp v w S=>E w S λa l w e=>by
   obtain⟨is,i,w⟩:=iu w;exact xy U m e i w.1 w.2
 |min2=>
  obtain⟨p,q,rfl,w⟩:=uM w;obtain⟨u,v,rfl,P,S⟩:=r.two;obtain⟨x,rfl,w⟩:=cf w;obtain⟨y,rfl,j⟩:=cf w;obtain⟨t,rfl⟩:=P;obtain⟨g,rfl⟩:=S;exact vY U m j
 |sortp=>
  exact F w λp v w S=>E w S λa l w e=>by
   obtain⟨ps,D,w⟩:=pX w;exact tx m e D w.1 w.2
 |dict=>
  exact F w λp v w S=>by
   obtain⟨a,L,l,rfl,e,j⟩:=gY w;rw[show v= .ref a from S];exact uj m e j.1 j.2 W
end
section
set_option backward.match.sparseCases true
def Mv(F:Jg->Prop)(h h':Ji):Prop:=∀c o,¬F c->h.get? c=Ja o->h'.get? c=Ja o
def Fok(C:Cx)(σ:PH)(h:Ji)(F:Jg->Prop):Prop:=
 ∀c,F c->A3 (C.B.get? c=Jb) (σ c=Jb) (∀v n,h.get? c≠Ja (tupO v n))
section
variable{C:Cx}{F:Jg->Prop}{σ:PH}{h h':Ji}
theorem Mv.refl:Mv F h h:=λo0 o0 o0 e=>e
theorem Mv.mono{I:Jg->Prop}(x:Mv F h h')(k:∀c,F c->I c):Mv I h h':=λc o f e=>x c o (λq=>f (k c q)) e
mutual
theorem VR.mv(mv:Mv F h h')(fo:Fok C σ h F):∀ (p:PV) (v:Jf),VR C σ h p v->VR C σ h' p v
 | .none=>λo0 e=>e
 | .bool _=>λo0 e=>e
 | .int _=>λo0 e=>e
 | .str _=>λo0 e=>e
 | .ref _=>λo0 e=>e
 | .scr _=>λo0 e=>e
 | .tup l=>λv e=>by
  obtain⟨a,n,vs,T,es,w,V⟩:=e;refine⟨a,n,vs,T,es,mv a _ (λf=>by obtain⟨o0,o0,q⟩:=fo a f;exact q vs n w) w,VRs.mv mv fo l _ V⟩
theorem VRs.mv(mv:Mv F h h')(fo:Fok C σ h F):∀ (l:List PV) (vs:List Jf),VRs C σ h l vs->VRs C σ h' l vs
 |[]=>λo0 e=>e
 |p::ps=>λvs e=>by
  obtain⟨v,r,T,w,X⟩:=e;exact⟨v,r,T,VR.mv mv fo p v w,VRs.mv mv fo ps r X⟩
end
theorem KeyAt.mv(mv:Mv F h h')(fo:Fok C σ h F)(x:KeyAt C σ h k a):KeyAt C σ h' k a:=by
 obtain⟨n,v,m,g,i⟩:=x;refine⟨n,v,m,mv a _ (λf=>by obtain⟨o0,o0,q⟩:=fo a f;exact q v m g) g,i⟩
theorem OR.mv(mv:Mv F h h')(fo:Fok C σ h F):∀ (p:PO) (o:Jp),OR C σ h p o->OR C σ h' p o:=λp o r=>by
 induction p with
 |list l=>obtain⟨J,n,w,X⟩:=r;exact⟨J,n,w,VRs.mv mv fo _ _ X⟩
 |dict=>obtain⟨s,H,P,x,d,e,k,nd,a,v⟩:=r;exact⟨s,H,P,x,d,e,k,nd,λy W=>(a y W).mv mv fo,VRs.mv mv fo _ _ v⟩
 |fd=>obtain⟨s,H,e,k,v,z⟩:=r;exact⟨s,H,e,k,λi f p N Y=>(v i f p N Y).imp λu q=>⟨q.1,VR.mv mv fo _ _ q.2⟩,z⟩
 |_=>exact r
theorem Sim.mv(m:Sim C σ h)(mv:Mv F h h')(fo:Fok C σ h F):Sim C σ h' where
 base:=λb o e=>mv b o (λf=>by obtain⟨q,o0,o0⟩:=fo b f;exact sn<|e.symm.trans q)<|m.base b o e
 new:=m.new
 objs:=λa o e=>by
  obtain⟨W,N,p⟩:=m.objs a o e;by_cases f:F a
  ·obtain⟨o0,q,o0⟩:=fo a f;exact ns<|q.symm.trans e
  ·exact⟨W,mv a W f N,p.mv mv fo⟩
 rich:=m.rich
theorem Step.mv{S:Jg->Prop}{h₀:Ji}(st:Step S B h₀ σ h)(mv:Mv F h h')(W:∀c,F c->h₀.get? c=Jb):Step S B h₀ σ h' where
 keep:=λb o e s=>by
  obtain⟨G,i,g,l⟩:=st.keep b o e s;exact⟨G,i,mv b i (λf=>by exact ns<|(W b f).symm.trans e) g,l⟩
 grow:=st.grow
 fix:=st.fix
 live:=λb e=>by
  by_cases f:F b
  ·exact W b f
  ·refine st.live b ?_
   induction q:h.get? b with
   |none=>rfl
   |some o=>exact sn<|(mv b o f q).symm.trans e
theorem Step.mvS{S:Jg->Prop}{h₀:Ji}(st:Step S B h₀ σ h)(mv:Mv F h h')(W:∀c,F c->h₀.get? c=Jb\/(S c/\(∀o,h₀.get? c=Ja o->¬isSeq o)/\∃o,h'.get? c=Ja o)):Step S B h₀ σ h' where
 keep:=λb o e s=>by
  obtain⟨g,i,y,l⟩:=st.keep b o e s;by_cases f:F b
  ·rcases W b f with q|⟨N,Z,P,Q⟩
   ·exact ns<|q.symm.trans e
   ·exact⟨g,P,Q,λx=>absurd (x N)<|Z o e⟩
  ·exact⟨g,i,mv b i f y,l⟩
 grow:=st.grow
 fix:=st.fix
 live:=λb e=>by
  by_cases f:F b
  ·rcases W b f with q|⟨o0,o0,P,Q⟩
   ·exact q
   ·exact sn<|Q.symm.trans e
  ·refine st.live b ?_
   induction q:h.get? b with
   |none=>rfl
   |some o=>exact sn<|(mv b o f q).symm.trans e
theorem EnvR.mv{env:Js}(x:EnvR C env L σ h)(mv:Mv F h h')(fo:Fok C σ h F)(fl:¬F env.locals)(f:∀y c,env.cells.lookup y=Ja c->¬F c):EnvR C env L σ h' where
 fn:=x.fn
 glob:=x.glob
 blt:=x.blt
 ns:=by
  obtain⟨m,n,hv⟩:=x.ns;exact⟨m,Ns.like n λo e=>⟨o,mv _ o fl e,.refl o⟩,λy p T w=>by obtain⟨v,a,b⟩:=hv y p T w;exact⟨v,a,b.mv mv fo⟩⟩
 cell:=λy p T w=>by
  obtain⟨c,v,a,b,d⟩:=x.cell y p T w;exact⟨c,v,a,IsCell.like b λo e=>⟨o,mv _ o (f y c a) e,.refl o⟩,d.mv mv fo⟩
 newL:=x.newL
 newC:=λy c e=>by
  obtain⟨a,v,b⟩:=x.newC y c e;exact⟨a,v,IsCell.like b λo g=>⟨o,mv _ o (f y c e) g,.refl o⟩⟩
 baseL:=x.baseL
 baseC:=x.baseC
 apart:=x.apart
 hasC:=x.hasC
theorem Frs.mv(f:Frs C σ h l)(mv:Mv F h h')(W:∀env∈l,∀L,env.frame=Ja L->¬F L):Frs C σ h' l:=λenv e=>by
 obtain⟨k,L,o,s,n,T,w,X,u,V⟩:=f env e;exact⟨k,L,o,s,n,T,w,X,mv L o (W env e L T) u,V⟩
theorem AOK.mv(x:AOK C n A l σ h)(mv:Mv F h h')(f:∀env∈l,∀L,env.frame=Ja L->¬F L):AOK C n A l σ h':=
 ⟨x.depth,x.units,x.stack,x.frs.mv mv f,x.calm⟩
theorem kH{o:Jp}(e:h.get? c=Ja o)(q:o.cls≠ .type "tuple"):∀vs n,h.get? c≠Ja (tupO vs n):=λvs n x=>by obtain rfl:=sj<|e.symm.trans x;exact q rfl
end
structure Src(C:Cx)(A:Jj)(t:Jl)(I:Jg)(fp:List Jg)(xs:List PV)(chk:PH->Prop)(St:Nat->PH->Ji->Prop):Prop where
 hdn:A.handled=Jb
 step:∀ {i:Nat} {S:Jg->Prop} {σ:PH} {h:Ji} {σ':PH} {h':Ji},St i σ h->Step S σ h σ' h'->(∀b∈fp,¬S b)->St i σ' h'
 mv:∀ {i:Nat} {F:Jg->Prop} {σ:PH} {h h':Ji},St i σ h->Mv F h h'->Fok C σ h F->(∀b∈fp,¬F b)->St i σ h'
 fok:∀ {i:Nat} {σ:PH} {h:Ji},St i σ h->Fok C σ h (· ∈fp)
 item:∀ {i:Nat} {x:PV} {σ:PH} {s:Je} {R:Option Jf->Je->Prop} {Er:Jf->Je->Prop},xs[i]? =Ja x->Sim C σ s.heap->chk σ->St i σ s.heap->
  (∀v s1,(∀ (K:Unit->Je->Prop) (Er':Jf->Je->Prop),(∀s2,VR C σ s2.heap x v->Sim C σ s2.heap->Mv (· ∈fp) s.heap s2.heap->St (i+1) σ s2.heap->Rest s s2->K () s2)->
   Jh (Mo C) A (letOwnedTupleGo t (.ref I) v) K Er' s1)->R (Ja v) s1)->Jh (Mo C) A (pyNext (.ref I)) R Er s
 done:∀ {σ:PH} {s:Je} {R:Option Jf->Je->Prop} {Er:Jf->Je->Prop},Sim C σ s.heap->chk σ->St xs.length σ s.heap->
  (∀s2,Sim C σ s2.heap->Mv (· ∈fp) s.heap s2.heap->Rest s s2->R Jb s2)->Jh (Mo C) A (pyNext<|.ref I) R Er s
 self:∀ {i:Nat} {σ:PH} {s:Je} {R:Jf->Je->Prop} {Er:Jf->Je->Prop},St i σ s.heap->R (.ref I) s->Jh (Mo C) A (YO<|.ref I) R Er s
section
variable{C:Cx}{A:Jj}{σ:PH}{h h':Ji}
theorem eS{o:Jp}{s:Je}{K:Unit->Je->Prop}{Er:Jf->Je->Prop}(ho:s.heap.get? I=Ja o)(hc:o.cls= .type n)
  (hn:["enumerate","zip","dict_itemiterator","dict_reverseitemiterator","odict_iterator","itertools.zip_longest","itertools.pairwise"].contains n=Jd)(h:K () s):
  Jh (Mo C) A (letOwnedTupleGo t (.ref I) v) K Er s:=by
 have key:Jh (Mo C) A (do
   let(.ref r,.ref a):=(Value.ref I,v)|return
   let o<-load r
   match o.cls,o.data with
   | .type n,.fields vs=>
    if ["enumerate","zip","dict_itemiterator","dict_reverseitemiterator","odict_iterator","itertools.zip_longest","itertools.pairwise"].contains n&&vs[0]? ==Ja (Jx a) then
     rule "for.unpacks-the-owned-tuple"
     updateField r 0 .none
   |_,_=>pure ()) K Er s:=by
  induction v using Value.casesOn with
  |ref a=>
   refine YG<|wpAny_load ho ?_;rw[hc]
   induction hd:o.data with
   |fields vs=>
    dsimp only;rw[hn];simp only[Bool.false_and,WG,if_false];exact YH h
   |_=>exact YH h
  |_=>exact YH h
 induction t using Expr.casesOn with
 |Tuple a b c=>exact key
 |List a b=>exact key
 |_=>exact YH h
theorem eG(b:C.B.get? I=Jb)(N:σ I=Jb){o:Jp}(e:h.get? I=Ja o)(q:o.cls≠ .type "tuple"):Fok C σ h (· ∈ [I]):=λc f=>by
 have f:=Qk.mp f;subst f;exact⟨b,N,kH e q⟩
theorem gn(k:Heap.ExtBut I h h'):Mv (· ∈ [I]) h h':=λc o f e=>k c o (λq=>f (Qk.mpr q)) e
theorem Src.list(U:A.handled=Jb)(t:Jl)(I a:Jg)(l:List PV):
  Src C A t I [I] l (λσ=>σ a=Ja (.list l)) (λi σ h=>σ I=Jb/\C.B.get? I=Jb/\h.IsListIter I a i) where
 hdn:=U
 step:=λz M S=>by
  obtain⟨N,b,o,p,J,O⟩:=z;obtain⟨G,Y,Q,k3⟩:=M.keep _ o p N;have k:=k3 λx=>absurd x<|S _ (.head _);exact⟨G,b,Y,Q,k.1.trans J,k.2.2.1.trans O⟩
 mv:=λz mv q W=>by obtain⟨N,b,o,p,J⟩:=z;exact⟨N,b,o,mv _ o (W _<|.head _) p,J⟩
 fok:=λz=>by obtain⟨N,b,o,p,J,O⟩:=z;exact eG b N p<|by rw[J];simp
 item:=λ{i x σ s R E} hx m c ⟨N,b,w⟩ X=>by
  obtain⟨D,n,P,g⟩:=m.list c;obtain⟨v,T,Z⟩:=g.get i x hx;refine wpAny_pyNext_list_item w ⟨_,P,rfl,n,rfl⟩ (x:=v) (by simpa using T) λh' H B=> ?_;obtain⟨L,f,j,y⟩:=id w;have q:=eG b N f (by rw[j];simp);have mv:Mv (· ∈ [I]) s.heap h':=gn B.extBut;refine X v _ λK r hK=> ?_;obtain⟨o2,u,d,w6⟩:=id H;exact eS u d (by decide)<|hK _ (Z.mv mv q) (m.mv mv q) mv ⟨N,b,H⟩ ⟨rfl,rfl⟩
 done:=λ{σ s R E} m c ⟨N,b,w⟩ X=>by
  obtain⟨D,n,P,g⟩:=m.list c;have V:D.size=l.length:=by simpa using g.length
  refine wpAny_pyNext_list_end U w ⟨_,P,rfl,n,rfl⟩ (by simp[V]) λh' e=> ?_;obtain⟨L,f,j,y⟩:=w;exact X _ (m.mv (gn e)<|eG b N f (by rw[j];simp)) (gn e) ⟨rfl,rfl⟩
 self:=λz X=>by obtain⟨o0,o0,w⟩:=z;exact wpAny_pyIter_listiter w X
theorem Src.tuple(U:A.handled=Jb)(t:Jl)(I a:Jg)(l:List PV):
  Src C A t I [I] l (λσ=>True) (λi σ h=>σ I=Jb/\C.B.get? I=Jb/\h.IsTupleIter I a i/\VR C σ h (.tup l) (.ref a)) where
 hdn:=U
 step:=λz M S=>by
  obtain⟨N,b,⟨o,p,J,O⟩,hv⟩:=z;obtain⟨G,V,k2,k3⟩:=M.keep _ o p N;have k:=k3 λx=>absurd x<|S _ (.head _);exact⟨G,b,⟨V,k2,k.1.trans J,k.2.2.1.trans O⟩,hv.step M⟩
 mv:=λz mv f W=>by obtain⟨N,b,⟨o,p,J⟩,hv⟩:=z;exact⟨N,b,⟨o,mv _ o (W _<|.head _) p,J⟩,hv.mv mv f⟩
 fok:=λz=>by obtain⟨N,b,⟨o,p,J,O⟩,o0⟩:=z;exact eG b N p<|by rw[J];simp
 item:=λ{i x σ s R E} hx m c ⟨N,b,w,hv⟩ X=>by
  have u:=hv;obtain⟨y,n,D,T,r,P,g⟩:=u;cases T;obtain⟨v,T,Y⟩:=g.get i x hx;refine wpAny_pyNext_tuple_item w ⟨_,P,rfl,n,rfl⟩ (x:=v) (by simpa using T) λh' H B=> ?_;obtain⟨L,Z,j,w3⟩:=id w;have f:=eG b N Z (by rw[j];simp);have mv:Mv (· ∈ [I]) s.heap h':=gn B.extBut;refine X v _ λK Q hK=> ?_;obtain⟨o2,w4,d,w6⟩:=id H;exact eS w4 d (by decide)<|hK _ (Y.mv mv f) (m.mv mv f) mv ⟨N,b,H,hv.mv mv f⟩ ⟨rfl,rfl⟩
 done:=λ{σ s R E} m c ⟨N,b,w,hv⟩ X=>by
  obtain⟨y,n,D,T,r,P,g⟩:=hv;cases T;have q:D.size=l.length:=by simpa using g.length
  refine wpAny_pyNext_tuple_end U w ⟨_,P,rfl,n,rfl⟩ (by simp[q]) λh' e=> ?_;obtain⟨L,Z,j,w3⟩:=w;exact X _ (m.mv (gn e)<|eG b N Z (by rw[j];simp)) (gn e) ⟨rfl,rfl⟩
 self:=λz X=>by obtain⟨o0,o0,w,o0⟩:=z;exact wpAny_pyIter_tupleiter w X
theorem Src.range(U:A.handled=Jb)(t:Jl)(I:Jg)(n:Nat):
  Src C A t I [I] ((Qc n).map λ(i:Nat)=> .int i) (λσ=>True) (λi σ h=>σ I=Jb/\C.B.get? I=Jb/\i<=n/\IsRangeIter h I i (n-i) 1) where
 hdn:=U
 step:=λz Z S=>by
  obtain⟨N,b,T,p⟩:=z;obtain⟨P,o,k,y⟩:=Z.keep _ _ p N;have a:=y λx=>absurd x<|S _ (.head _);rw[a.eq (by simp)] at k;exact⟨P,b,T,k⟩
 mv:=λz mv f j=>by obtain⟨N,b,T,p⟩:=z;exact⟨N,b,T,mv _ _ (j _<|.head _) p⟩
 fok:=λz=>by obtain⟨N,b,T,p⟩:=z;exact eG b N p<|by simp
 item:=λ{i x σ s R E} hx m c ⟨N,b,T,w⟩ X=>by
  have V:i<n:=by
   rcases Nat.lt_or_ge i n with q|q
   ·exact q
   ·exact ns<|(KK<|by simp;exact q).symm.trans hx
  have ex:x= .int i:=by
   rw[Qu,Wk V] at hx;simpa using hx.symm
  subst ex;refine wpAny_pyNext_range_item w (by exact Int.sub_pos_of_lt<|Kj.mpr V) λh' l B=> ?_;have f:=eG b N w (by simp);have mv:Mv (· ∈ [I]) s.heap h':=gn B.extBut;refine X _ _ λK r H=> ?_;refine eS l rfl (by decide)<|H _ ⟨_,rfl⟩ (m.mv mv f) mv ⟨N,b,V,?_⟩ ⟨rfl,rfl⟩;have:((n:Int)-(i:Int)-1)=(n:Int)-((i+1:Nat):Int):=by exact Yd _ _ _
  rw[this] at l;exact l
 done:=λ{σ s R E} m c ⟨N,b,T,w⟩ X=>by
  refine wpAny_pyNext_range_end U w (by simp) λh' e=> ?_;exact X _ (m.mv (gn e)<|eG b N w (by simp)) (gn e) ⟨rfl,rfl⟩
 self:=λz X=>by obtain⟨o0,o0,o0,w⟩:=z;exact wpAny_pyIter_rangeiter w X
def uc(C:Cx)(A:Jj)(k:IK)(v:List Jf)(R Er:Jf->Je->Prop)(s:Je):Prop:=
 match k with
 | .val=>Jh (Mo C) A (YO<|v.headD .none) R Er s
 | .range=>Jh (Mo C) A (call (.type "range") v) (λx W=>Jh (Mo C) A (YO x) R Er W) Er s
def n4(C:Cx)(k:IK):Prop:=∀ (A:Jj) (t:Jl) (w:List PV) (v:List Jf) (σ:PH) (s:Je) (K:List PV->(PH->Prop)->PH->Prop) (R E:Jf->Je->Prop),
 A.handled=Jb->VRs C σ s.heap w v->Sim C σ s.heap->src k w σ (λx c=>x.length<=lim/\K x c σ)->
 (∀x c I f S m W,Src C A t I f x c S->S 0 m W.heap->Sim C m W.heap->Step none1 σ s.heap m W.heap->Rest s W->(∀b∈f,s.heap.get? b=Jb/\b<W.heap.objs.size)->x.length<=lim->K x c m->R (.ref I) W)->
 uc C A k v R E s
theorem jw(h:Ji)(e:h.objs.size<=a):h.get? a=Jb:=by
 induction q:h.get? a with
 |none=>rfl
 |some o=>exact absurd (QS q)<|QT.mpr e
theorem vm{K:List PV->(PH->Prop)->Prop}(s:src .val vs σ K):(X2 λa l=>A3 (vs=[.ref a]) (σ a=Ja (.list l)) (K l λσ'=>σ' a=Ja (.list l)))\/(∃l,vs=[.tup l]/\K l λo0=>True):=by
 rcases vs with o0|⟨p,o0|⟨o0,o0⟩⟩
 ·exact s.elim
 ·rcases p with o0|o0|o0|o0|l|a|o0<;>first|exact s.elim|exact .inr ⟨l,rfl,s⟩|skip
  obtain⟨o0,l,e,T,w⟩:=gP (show onL σ (λl=>K l λσ'=>σ' a=Ja (.list l)) (.ref a) from s);cases e;exact .inl ⟨a,l,rfl,T,w⟩
 ·rcases p with⟨⟩<;>exact s.elim
theorem mi{h:Ji}{i:Ji}(n:i.objs.size<=h.objs.size)(R:b∈ [h.objs.size]):i.get? b=Jb/\b<(h.push o).objs.size:=by
 rw[Qk] at R;subst R;exact⟨jw _ n,by rw[Kv];exact QG _⟩
theorem ry:n4 C .val:=by
 intro A t J H σ s K R E U hv m G X;show Jh (Mo C) A (YO<|H.headD .none) R E s
 rcases vm G with⟨a,l,rfl,e,w⟩|⟨l,rfl,w⟩
 ·obtain⟨v,rfl,d⟩:=hv.one;rw[show v= .ref a from d];obtain⟨J,n,g,c⟩:=m.list e;refine wpAny_pyIter_list ⟨_,g,rfl,n,rfl⟩ ?_;exact X _ _ s.heap.objs.size _ _ σ _ (Src.list U t _ a l) ⟨m.fresh<|Qz _,m.freshB<|Qz _,⟨_,QL _ rfl,rfl,rfl⟩⟩ (m.push _) (.push _ _ _ _) ⟨rfl,rfl⟩ (λb o=>mi (Qz _) o) w.1 w.2
 ·obtain⟨v,rfl,d⟩:=hv.one;have hv:=d;obtain⟨a,n,J,rfl,I,g,c⟩:=d;refine wpAny_pyIter_tuple ⟨_,g,rfl,n,rfl⟩ ?_;exact X _ _ s.heap.objs.size _ _ σ _ (Src.tuple U t _ a l) ⟨m.fresh<|Qz _,m.freshB<|Qz _,⟨_,QL _ rfl,rfl,rfl⟩,hv.step<|.push none1 _ _ _⟩ (m.push _) (.push _ _ _ _) ⟨rfl,rfl⟩ (λb o=>mi (Qz _) o) w.1 w.2
theorem oa:n4 C .range:=by
 intro A t w a σ s K R r U hv m E X;show Jh (Mo C) A (call (.type "range") a) (λx W=>Jh (Mo C) A (YO x) R r W) r s
 match w,E with
 |[p],E=>
  obtain⟨n,rfl,g,l,P⟩:=cf (show onInt (λn=> -1000000<n/\((Qc n.toNat).map λ(i:Nat)=>PV.int i).length<=lim/\K ((Qc n.toNat).map λ(i:Nat)=>PV.int i) (λo0=>True) σ) p from E);obtain⟨v,rfl,tk,rfl⟩:=hv.one;have T:n<=1000000:=by
   simp only[Qd,Qr,lim] at l;exact YD.mp l
  have z:Builtin.Range.rangeSize 0 n 1=(n.toNat:Int):=by rw[rangeSize_one 0 n];exact zrs n
  refine call_range_1 ?_;refine wpAny_pyIter_range (IsRange.new ..) (small_one (by decide) (by decide) (by exact QE (by decide)<|WC g)<|by exact Ye T<|by decide) ?_;rw[z];have c:=m.push {cls:= .type "range",data:= .fields #[.int 0 s.toks,.int n tk,.int 1 (s.toks+1)]};refine X _ _ _ _ _ σ _ (Src.range U t _ n.toNat) ⟨c.fresh<|Qz _,c.freshB<|Qz _,QN _,?_⟩ (c.push _) ((Step.push _ _ _ _).trans (.push _ _ _ _)) ⟨rfl,rfl⟩ (λb H=>mi (by rw[Kv];exact Wo _) H) l P;have e:=QL (s.heap.push {cls:= .type "range",data:= .fields #[.int 0 s.toks,.int n tk,.int 1 (s.toks+1)]}) (o:={cls:= .type "range_iterator",data:= .fields #[Jx 0,Jx n.toNat,Jx 1]}) rfl
  simpa using e
end
end
theorem Rho.get_put:∀ {ρ:Rho} {y:String} {q:PV},(ρ.put x v).get y=Ja q->(y=x/\q=v)\/(y≠x/\ρ.get y=Ja q):=λ{ρ} y q=>by
 induction ρ with
 |nil=>exact λh=>ns h
 |cons p r i=>
  obtain⟨z,o⟩:=p;intro h;rw[Rho.put_c] at h;rw[Rho.get_c];by_cases T:z=x
  ·rw[Y8 T,Rho.get_c] at h;by_cases W:z=y
   ·rw[Y8 W] at h;exact .inl ⟨W.symm.trans T,(sj h).symm⟩
   ·rw[Y7 W] at h;rw[Y7 W];exact .inr ⟨λe=>W<|T.trans e.symm,h⟩
  ·rw[Y7 T,Rho.get_c] at h;by_cases W:z=y
   ·rw[Y8 W] at h ⊢;exact .inr ⟨λe=>T<|W.trans e,h⟩
   ·rw[Y7 W] at h ⊢;exact i h
theorem Rho.get_put_ne:∀ {ρ:Rho} {y:String},y≠x->(ρ.put x v).get y=ρ.get y:=λ{ρ} y h=>by
 induction ρ with
 |nil=>rfl
 |cons p r i=>
  obtain⟨z,o⟩:=p;rw[Rho.put_c,Rho.get_c];by_cases T:z=x
  ·rw[Y8 T,Rho.get_c,Y7 λe=>h<|e.symm.trans T,Y7 λe=>h (e.symm.trans T)]
  ·rw[Y7 T,Rho.get_c,i]
theorem Rho.get_puts_ne:∀ {xs:List String} {vs:List PV} {ρ:Rho} {y:String},y∉xs->(ρ.puts xs vs).get y=ρ.get y
 |[],vs=>λh=>rfl
 |x::xs,[]=>λh=>rfl
 |x::xs,v::vs=>λh=>by
  show(Rho.puts (Rho.put _ x v) xs vs).get _=_;rw[Rho.get_puts_ne (λe=>h<|KB _ e),Rho.get_put_ne (by rintro rfl;exact h KZ)]
theorem jj{tg:Tg}{ρ:Rho}(h:(blank tg ρ).get y=Ja q):y≠".0"/\y∉tg.names/\ρ.get y=Ja q:=by
 have h:(if ".0"=y then Jb else Rho.get ((tg.names.map λx=>(x,Jb))++ρ) y)=Ja q:=h;by_cases i:".0"=y
 ·exact ns<|(Y8 i).symm.trans h
 rw[Y7 i] at h;refine⟨λe=>i e.symm,?_⟩;generalize tg.names=l at h
 induction l with
 |nil=>exact⟨by simp,h⟩
 |cons x r W=>
  have h:(if x=y then Jb else Rho.get (r.map (λx=>(x,Jb))++ρ) y)=Ja q:=h;by_cases hx:x=y
  ·exact ns<|(Y8 hx).symm.trans h
  ·rw[Y7 hx] at h;obtain⟨a,b⟩:=W h;exact⟨by simp only[QB,not_or];exact⟨λe=>hx e.symm,a⟩,b⟩
set_option tactic.hygienic true in
theorem qE{ρ ρ':Rho}(h:bindC tg v ρ=Ja ρ')(e:(blank tg ρ).get y=Ja q):ρ'.get y=Ja q:=by
 obtain⟨o0,n,o0⟩:=jj e
 induction tg with
 |name x=>
  obtain rfl:=sj (show Ja ((blank (.name x) ρ).put x v)=Ja ρ' from h);exact(Rho.get_put_ne λq=>n<|Qk.mpr q).trans e
 |tup P=>
  induction v using PV.casesOn with
  |tup w=>
   have h:(if w.length=P.length then Ja ((blank (.tup P) ρ).puts P w) else Jb)=Ja ρ':=h;by_cases l:w.length=P.length
   ·obtain rfl:=sj<|(Y8 l).symm.trans h;exact(Rho.get_puts_ne n).trans e
   ·exact ns<|(Y7 l).symm.trans h
  |_=>exact ns h
section
variable{C:Cx}{A:Jj}{Er:Jf->Je->Prop}{env:Js}{ρ:Rho}{σ:PH}{s:Je}
theorem EnvR.weak{ρ':Rho}(x:EnvR C env ρ σ h)(k:∀y q,ρ'.get y=Ja q->ρ.get y=Ja q):EnvR C env ρ' σ h:=
 ⟨x.fn,x.glob,x.blt,by obtain⟨m,a,b⟩:=x.ns;exact⟨m,a,λy p e=>b y p<|k y p e⟩,λy p e=>x.cell y p<|k y p e,x.newL,x.baseL,x.baseC,x.newC,x.apart,x.hasC⟩
noncomputable def slot(env:Js)(xs:List String):Jg->Prop:=λb=>∃x∈xs,(env.kindOf (Qb x)=Ja .local/\b=env.locals)\/(env.kindOf (Qb x)=Ja .cell/\env.cells.lookup (Qb x)=Ja b)
structure Asg(C:Cx)(env:Js)(F:Jg->Prop)(σ:PH)(h h':Ji):Prop where
 mv:Mv F h h'
 fok:Fok C σ h F
 frs:∀l,Frs C σ h l->Frs C σ h' l
 sim:Sim C σ h'
 has:∀c,F c->(∀o,h.get? c=Ja o->¬isSeq o)/\∃o,h'.get? c=Ja o/\¬isSeq o
theorem dA{o:Jp}(h:o.data= .dict es n):¬isSeq o:=λz=>by obtain⟨x,n,e⟩:=z;rw[h] at e;cases e
theorem fm{o:Jp}(h:o.data= .cell v):¬isSeq o:=λz=>by obtain⟨x,n,e⟩:=z;rw[h] at e;cases e
theorem gQ{h:Ji}(e:h.get? c=Ja o)(q:¬isSeq o):∀vs n,h.get? c≠Ja (tupO vs n):=λvs n x=>by obtain rfl:=sj<|e.symm.trans x;exact q ⟨vs,n,rfl⟩
theorem og{K:Unit->Je->Prop}(W:EnvR C env ρ σ s.heap)(m:Sim C σ s.heap)
  (hx:env.kindOf (Qb x)=Ja .local\/env.kindOf (Qb x)=Ja .cell)(hv:VR C σ s.heap p v)
  (hK:∀s',Asg C env (slot env [x]) σ s.heap s'.heap->EnvR C env (ρ.put x p) σ s'.heap->Rest s s'->K () s'):Jh (Mo C) A (storeName env (Qb x) v) K Er s:=by
 rcases hx with hx|hx
 ·obtain⟨mm,n,D⟩:=W.ns;have hp:(env.scope.kind== .class||(env.scope.kind== .module&&env.locals !=env.globals))=Jd:=by rw[W.fn];rfl
  refine wpAny_storeName_local hx n (λH I h=> ?_) hp;have j:∀c,slot env [x] c->c=env.locals:=by
   rintro c ⟨y,Q,q|q⟩
   ·exact q.2
   ·rw[Qk] at Q;subst Q;rw[hx] at q;cases q.1
  obtain⟨o,es,ep,Y,G,o0⟩:=id n;obtain⟨i,O,aa,J,S,o0⟩:=id I;have mv:Mv (slot env [x]) s.heap H:=λc o f e=>h.extBut c o (λq=>f ⟨x,Qk.mpr rfl,.inl ⟨hx,q⟩⟩) e;have N:Fok C σ s.heap (slot env [x]):=λc f=>by
   have:=j c f;subst this;exact⟨W.baseL,W.newL,gQ Y<|dA G⟩
  refine hK _ ⟨mv,N,λl f=> ?_,m.mv mv N,λc f=> ?_⟩ ?_ ⟨rfl,rfl⟩
  ·intro M he;obtain⟨k,L,P,B,n1,T,F,X,u,V⟩:=f M he;by_cases q:L=env.locals
   ·subst q;exact⟨k,_,i,O,aa,T,F,X,J,S⟩
   ·exact⟨k,L,P,B,n1,T,F,X,h.extBut _ _ q u,V⟩
  ·have:=j c f;subst this;exact⟨λP q=>by obtain rfl:=sj<|Y.symm.trans q;exact dA G,i,J,dA S⟩
  ·have nc:∀y c,env.cells.lookup y=Ja c->c≠env.locals:=by
    rintro y c q rfl;obtain⟨o0,v1,P,U,R⟩:=W.newC y _ q;obtain rfl:=sj<|Y.symm.trans U;rw[G] at R;cases R
   refine⟨W.fn,W.glob,W.blt,⟨_,I,λy q T F=> ?_⟩,λy q T F=> ?_,W.newL,W.baseL,W.baseC,λy c e=> ?_,W.apart,W.hasC⟩
   ·rcases Rho.get_put T with⟨rfl,rfl⟩|⟨g,T⟩
    ·exact⟨v,Y8 rfl,hv.mv mv N⟩
    ·obtain⟨w,a,b⟩:=D y q T F;exact⟨w,by rw[Y7 (λe=>g<|ofString_inj e)];exact a,b.mv mv N⟩
   ·rcases Rho.get_put T with⟨rfl,rfl⟩|⟨g,T⟩
    ·rw[hx] at F;rcases F with F|F<;>cases F
    ·obtain⟨c,w,a,b,d⟩:=W.cell y q T F;exact⟨c,w,a,b.sameBut h<|nc _ c a,d.mv mv N⟩
   ·obtain⟨a,w,b⟩:=W.newC y c e;exact⟨a,w,b.sameBut h<|nc _ c e⟩
 ·obtain⟨c,Z⟩:=W.hasC _<|.inl hx;obtain⟨z,ab,t⟩:=W.newC _ c Z;refine wpAny_storeName_cell W.fn hx Z t λH E h=> ?_;have j:∀d,slot env [x] d->d=c:=by
   rintro d ⟨y,Q,q|q⟩
   ·rw[Qk] at Q;subst Q;rw[hx] at q;cases q.1
   ·rw[Qk] at Q;subst Q;rw[Z] at q;obtain rfl:=sj q.2;rfl
  obtain⟨o,Y,G⟩:=id t;obtain⟨i,J,S⟩:=id E;have mv:Mv (slot env [x]) s.heap H:=λd o f e=>h.extBut d o (λq=>f ⟨x,Qk.mpr rfl,.inr ⟨hx,by rw[q];exact Z⟩⟩) e;have N:Fok C σ s.heap (slot env [x]):=λd f=>by
   have:=j d f;subst this;exact⟨W.baseC _ _ Z,z,gQ Y<|fm G⟩
  refine hK _ ⟨mv,N,λl f=> ?_,m.mv mv N,λd f=> ?_⟩ ?_ ⟨rfl,rfl⟩
  ·intro M he;obtain⟨k,L,P,B,n1,T,F,X,u,V⟩:=f M he;have q:L≠c:=by rintro rfl;obtain rfl:=sj<|Y.symm.trans u;rw[G] at V;cases V
   exact⟨k,L,P,B,n1,T,F,X,h.extBut _ _ q u,V⟩
  ·have:=j d f;subst this;exact⟨λP q=>by obtain rfl:=sj<|Y.symm.trans q;exact fm G,i,J,fm S⟩
  ·obtain⟨mm,n,D⟩:=W.ns;have nl:env.locals≠c:=by
    rintro q;obtain⟨P,es,ep,U,R,o0⟩:=n;rw[q,Y] at U;obtain rfl:=sj U;rw[G] at R;cases R
   refine⟨W.fn,W.glob,W.blt,⟨mm,Ns.like n λo e=>⟨o,h.extBut _ _ nl e,.refl o⟩,λy q T F=> ?_⟩,λy q T F=> ?_,W.newL,W.baseL,W.baseC,λy d e=> ?_,W.apart,W.hasC⟩
   ·rcases Rho.get_put T with⟨rfl,rfl⟩|⟨g,T⟩
    ·rw[hx] at F;cases F
    ·obtain⟨w,a,b⟩:=D y q T F;exact⟨w,a,b.mv mv N⟩
   ·rcases Rho.get_put T with⟨rfl,rfl⟩|⟨g,T⟩
    ·exact⟨c,v,Z,E,hv.mv mv N⟩
    ·obtain⟨d,w,a,b,r⟩:=W.cell y q T F;have:d≠c:=by rintro rfl;exact g (ofString_inj<|W.apart _ _ _ a Z)
     exact⟨d,w,a,b.sameBut h this,r.mv mv N⟩
   ·obtain⟨a,w,b⟩:=W.newC y d e;by_cases q:d=c
    ·subst q;exact⟨a,Ja v,E⟩
    ·exact⟨a,w,b.sameBut h q⟩
theorem Asg.refl{F:Jg->Prop}{h:Ji}(m:Sim C σ h)(fo:Fok C σ h F)(a:∀c,F c->∃o,h.get? c=Ja o/\¬isSeq o):Asg C env F σ h h:=
 ⟨.refl,fo,λo0 f=>f,m,λc f=>by obtain⟨o,e,q⟩:=a c f;exact⟨λP T=>by obtain rfl:=sj<|e.symm.trans T;exact q,o,e,q⟩⟩
theorem Asg.trans{F I:Jg->Prop}{h S H:Ji}(x:Asg C env F σ h S)(y:Asg C env I σ S H):Asg C env (λc=>F c\/I c) σ h H where
 mv:=λc o f e=>y.mv c o (λq=>f<|.inr q)<|x.mv c o (λq=>f<|.inl q) e
 fok:=λc f=>by
  by_cases q:F c
  ·exact x.fok c q
  ·rcases f with f|f
   ·exact absurd f q
   ·obtain⟨a,d,V⟩:=y.fok c f;exact⟨a,d,λv n e=>V v n<|x.mv c _ q e⟩
 frs:=λl f=>y.frs l<|x.frs l f
 sim:=y.sim
 has:=λc f=>by
  by_cases q:I c
  ·obtain⟨a,b⟩:=y.has c q;refine⟨λo e=> ?_,b⟩;by_cases Z:F c
   ·exact(x.has c Z).1 o e
   ·exact a o<|x.mv c o Z e
  ·rcases f with f|f
   ·obtain⟨a,o,e,b⟩:=x.has c f;exact⟨a,o,y.mv c o q e,b⟩
   ·exact absurd f q
theorem Asg.mono{F I:Jg->Prop}{h S:Ji}(x:Asg C env F σ h S)(k:∀c,I c↔F c):Asg C env I σ h S:=
 ⟨x.mv.mono λc f=>(k c).mpr f,λc f=>x.fok c<|(k c).mp f,x.frs,x.sim,λc f=>x.has c<|(k c).mp f⟩
theorem qY:slot env (x::xs) c↔(slot env [x] c\/slot env xs c):=by
 constructor
 ·rintro ⟨y,h,q⟩
  rcases QB.mp h with rfl|h
  ·exact .inl ⟨y,Qk.mpr rfl,q⟩
  ·exact .inr ⟨y,h,q⟩
 ·rintro (⟨y,h,q⟩|⟨y,h,q⟩)
  ·rw[Qk] at h;subst h;exact⟨y,KZ,q⟩
  ·exact⟨y,KB _ h,q⟩
theorem jB{K:Unit->Je->Prop}(e:EnvR C env ρ σ s.heap)(m:Sim C σ s.heap)
  (hx:env.kindOf (Qb x)=Ja .local\/env.kindOf (Qb x)=Ja .cell)(hv:VR C σ s.heap p v)
  (h:∀s',Asg C env (slot env [x]) σ s.heap s'.heap->EnvR C env (ρ.put x p) σ s'.heap->Rest s s'->K () s'):Jh (Mo C) A (assign (.Name (Qb x) pos) env v) K Er s:=
 wpAny_assign_Name (og e m hx hv h)
theorem oM(h:dQ sc (x::xs) (.Name y pos::es)=Jc):y=Qb x/\isOwn sc y=Jc/\dQ sc xs es=Jc:=by
 have h:=Qg.mp (show((((Vl.Internal.nm y x&&isOwn sc y)&&bu y)&& !xs.contains x)&&dQ sc xs es)=Jc from h);have N:=Qg.mp (Qg.mp (Qg.mp h.1).1).1;exact⟨beq_iff_eq.mp N.1,N.2,h.2⟩
theorem rK(h:mTg sc (.name x) (.Name y pos)=Jc):y=Qb x/\isOwn sc y=Jc:=by
 have h:=Qg.mp (Qg.mp (show((Vl.Internal.nm y x&&isOwn sc y)&&bu y)=Jc from h)).1;exact⟨beq_iff_eq.mp h.1,h.2⟩
theorem iB:∀ {xs:List String} {es:List Jl} {ps:List PV} {vs:List Jf} {ρ:Rho} {s:Je} {K:Unit->Je->Prop},dQ sc xs es=Jc->EnvR C env ρ σ s.heap->Sim C σ s.heap->
  (∀x∈xs,env.kindOf (Qb x)=Ja .local\/env.kindOf (Qb x)=Ja .cell)->VRs C σ s.heap ps vs->ps.length=xs.length->
  (∀s',Asg C env (slot env xs) σ s.heap s'.heap->EnvR C env (ρ.puts xs ps) σ s'.heap->Rest s s'->K () s')->Jh (Mo C) A (assignInOrder ((JM es env).map (·.2)) vs) K Er s
 |[],[],ps,vs,ρ,s,K,hm,ev,m,hx,hv,hl,hK=>by
  have:ps=[]:=Yk.mp hl;subst this;change _=_ at hv;subst hv;exact YH<|hK s (.refl m (λc z'=>by obtain⟨y,hy,o0⟩:=z';cases hy) (λc z'=>by obtain⟨y,hy,_⟩:=z';cases hy)) ev ⟨rfl,rfl⟩
 |[],_::_,_,_,_,_,_,hm,_,_,_,_,_,_=>by exact ft hm
 |x::xs,[],_,_,_,_,_,hm,_,_,_,_,_,_=>by exact ft hm
 |x::xs,e::es,ps,vs,ρ,s,K,hm,ev,m,hx,hv,hl,hK=>by
  induction e using Expr.casesOn with
  |Name y pos=>
   obtain⟨rfl,o0,hm⟩:=oM hm
   induction ps using List.casesOn with
   |nil=>simp at hl
   |cons p ps=>
    obtain⟨v,r,rfl,hv,hr⟩:=hv;show Jh _ _ (holding r (assign _ env v)>>=λo0=>assignInOrder ((JM es env).map (·.2)) r) K Er s;refine YG<|YJ (jB ev m (hx x KZ) hv λs1 a1 ev1 r1=> ?_);refine iB hm ev1 a1.sim (λy hy=>hx y<|KB _ hy) (hr.mv a1.mv a1.fok) (by simpa using hl) λs2 a2 ev2 r2=> ?_;exact hK s2 ((a1.trans a2).mono λc=>qY) ev2<|r1.trans r2
  |_=>first|exact bnx hm|exact onx hm|cases hm
theorem kD:∀ {xs:List String} {es:List Jl},dQ sc xs es=Jc->(JM es env).length=xs.length/\(JM es env).findIdx? (·.1)=Jb
 |[],[]=>λo0=>⟨rfl,rfl⟩
 |[],_::_=>λhm=>by exact ft hm
 |x::xs,[]=>λhm=>by exact ft hm
 |x::xs,e::es=>λhm=>by
  induction e using Expr.casesOn with
  |Name y pos=>
   obtain⟨a,b⟩:=kD (oM hm).2.2;refine⟨Ub (· +1) a,?_⟩;show List.findIdx? (·.1) ((Jd,_)::JM es env)=Jb;rw[List.findIdx?_cons,b];rfl
  |_=>first|exact bnx hm|exact onx hm|cases hm
theorem g8{tg:Tg}{K:Unit->Je->Prop}(hh:tg.isT=Jc->A.handled=Jb)(ht:mTg sc tg t=Jc)(ev:EnvR C env ρ σ s.heap)(m:Sim C σ s.heap)
  (hx:∀x∈tg.names,env.kindOf (Qb x)=Ja .local\/env.kindOf (Qb x)=Ja .cell)(hv:VR C σ s.heap p v)(hb:bindT tg p ρ=Ja ρ')
  (hK:∀s',Asg C env (slot env tg.names) σ s.heap s'.heap->EnvR C env ρ' σ s'.heap->Rest s s'->K () s'):Jh (Mo C) A (assign t env v) K Er s:=by
 induction tg with
 |name x=>
  induction t using Expr.casesOn with
  |Name y pos=>
   obtain⟨rfl,o0⟩:=rK ht;obtain rfl:=sj (show Ja (ρ.put x p)=Ja ρ' from hb);exact jB ev m (hx x<|Qk.mpr rfl) hv hK
  |_=>first|exact bnx ht|exact onx ht|cases ht
 |tup xs=>
  induction t using Expr.casesOn with
  |Tuple es a b=>
   replace ht:dQ sc xs es=Jc:=ht
   induction p using PV.casesOn with
   |tup ps=>
    have hb:(if ps.length=xs.length then Ja (ρ.puts xs ps) else Jb)=Ja ρ':=hb;by_cases hl:ps.length=xs.length
    ·obtain rfl:=sj<|(Y8 hl).symm.trans hb;obtain⟨a,n,vs,rfl,es',g1,g2⟩:=hv;obtain⟨q1,q2⟩:=kD (env:=env) ht;have hsz:vs.size=ps.length:=by simpa using g2.length
     refine wpAny_assign_Tuple (hh rfl) ⟨_,g1,rfl,n,rfl⟩ (by rw[q1,hsz,hl]) q2 λh' he=> ?_;have kp:∀b o,s.heap.get? b=Ja o->h'.get? b=Ja o:=λb o e=>he b o (WE<|QS e) e;have st:Step none1 σ s.heap σ h':= .more kp;refine iB (s:={s with heap:=h'}) ht (ev.step st) (m.more kp) hx (g2.step st) hl λs2 a2 ev2 r2=> ?_;refine hK s2 ⟨λc o f e=>a2.mv c o f<|kp c o e,λc f=> ?_,λl f=>a2.frs l<|f.step st λo0 o0 o0 o0 q=>q,a2.sim,λc f=> ?_⟩ ev2 r2
     ·obtain⟨q3,b1,b2⟩:=a2.fok c f;exact⟨q3,b1,λvs n e=>b2 vs n<|kp c _ e⟩
     ·obtain⟨q3,q4⟩:=a2.has c f;exact⟨λo e=>q3 o<|kp c o e,q4⟩
    ·exact ns<|(Y7 hl).symm.trans hb
   |_=>exact ns hb
  |_=>first|exact bnx ht|exact onx ht|cases ht
end
theorem bL{L:Type}{x y:Jq}{v:L}{l:List (Jq×L)}(h:x≠y):YF x ((y,v)::l)=YF x l:=by
 rw[Yv,beq_eq_false_iff_ne.mpr h]
theorem lookup_cons_self{L:Type}{x:Jq}{v:L}{l:List (Jq×L)}:YF x ((x,v)::l)=Ja v:=by
 rw[Yv,beq_self_eq_true]
theorem ic{env:Js}:∀ (names:List (Jq×JV)) (acc:List (Jq×Jg)),(∀n,(n,NameKind.free)∈names->∃c,env.cells.lookup n=Ja c)->(∀x c,acc.lookup x=Ja c->env.cells.lookup x=Ja c)->
  ∃cl,(forIn names acc (λ(p:Jq×JV) (cs:List (Jq×Jg))=>if(p.2==NameKind.free)=Jc then do let a<-cellOf env p.1;pure (ForInStep.yield ((p.1,a)::cs)) else pure (ForInStep.yield cs)):Sem _)=pure cl/\
   (∀x c,cl.lookup x=Ja c->env.cells.lookup x=Ja c)/\(∀x,((x,NameKind.free)∈names\/(acc.lookup x).isSome)->(cl.lookup x).isSome)
 |[]=>λacc o0 ha=>⟨acc,rfl,ha,λx h=>h.elim (λq=>by cases q) id⟩
 |(n,k)::r=>λacc hf ha=>by
  by_cases hk:k= .free
  ·subst hk;obtain⟨c,hc⟩:=hf n KZ;obtain⟨cl,e1,e2,e3⟩:=ic r ((n,c)::acc) (λy hy=>hf y (KB _ hy)) (λx d hx=>by
    by_cases q:x=n
    ·subst q;obtain rfl:=sj<|lookup_cons_self.symm.trans hx;exact hc
    ·rw[bL q] at hx;exact ha x d hx)
   refine⟨cl,?_,e2,λx h=>e3 x ?_⟩
   ·rw[List.forIn_cons];simp only[beq_self_eq_true,if_true];have:cellOf env n=pure c:=by unfold cellOf;rw[hc]
    rw[this];exact e1
   ·rcases h with h|h
    ·rcases QB.mp h with h|h
     ·cases h;right;rw[lookup_cons_self];rfl
     ·exact .inl h
    ·right
     by_cases q:x=n
     ·subst q;rw[lookup_cons_self];rfl
     ·rw[bL q];exact h
  ·obtain⟨cl,e1,e2,e3⟩:=ic r acc (λy hy=>hf y<|KB _ hy) ha;refine⟨cl,?_,e2,λx h=>e3 x ?_⟩
   ·rw[List.forIn_cons];have:(k==NameKind.free)=Jd:=by simpa using hk
    simp only[this,WG,if_false];exact e1
   ·rcases h with h|h
    ·rcases QB.mp h with h|h
     ·cases h;exact absurd rfl hk
     ·exact .inl h
    ·exact .inr h
theorem kQ{env:Js}{scope:Jk}(hf:∀n,(n,NameKind.free)∈scope.names->∃c,env.cells.lookup n=Ja c):
  ∃cl,closureFor scope env=pure cl/\(∀x c,cl.lookup x=Ja c->env.cells.lookup x=Ja c)/\(∀x,(x,NameKind.free)∈scope.names->∃c,cl.lookup x=Ja c):=by
 obtain⟨cl,e1,e2,e3⟩:=ic scope.names [] hf (λx c h=>by simp at h);refine⟨cl,?_,e2,λx h=>Option.isSome_iff_exists.mp (e3 x (.inl h))⟩;simp only[closureFor];have:(forIn scope.names ([]:List (Jq×Jg)) (λ(x:Jq×JV) (cs:List (Jq×Jg))=>match x with
   |(name,kind)=>if(kind==NameKind.free)=Jc then do let a<-cellOf env name;pure (ForInStep.yield ((name,a)::cs)) else pure (ForInStep.yield cs)):Sem _)=pure cl:=e1
 first|exact this|(rw[this];rfl)
theorem fz:∀ (names:List (Jq×JV)) (n:Nat) (a:List (Jq×Jg)) (x:Jq),(x,NameKind.cell)∉names->(JO n names a).lookup x=a.lookup x
 |[]=>λo0 o0 o0 o0=>rfl
 |(y,k)::r=>λn a x h=>by
  have T:(x,NameKind.cell)∉r:=λq=>h<|KB _ q;unfold JO
  split
  ·rename_i M
   rw[fz r (n+1) _ x T,bL];rintro rfl;have:k= .cell:=by simpa using M
   subst this;exact h KZ
  ·exact fz r n a x T
theorem eN:∀ (names:List (Jq×JV)) (n:Nat) (u:List (Jq×Jg)) (x:Jq),(x,NameKind.cell)∈names->∃c,n<=c/\(JO n names u).lookup x=Ja c
 |(y,k)::r,n,u,x,h=>by
  by_cases T:(x,NameKind.cell)∈r
  ·unfold JO
   split
   ·obtain⟨c,a,b⟩:=eN r (n+1) ((y,n)::u) x T;exact⟨c,Kc a,b⟩
   ·exact eN r n u x T
  ·rcases QB.mp h with h|h
   ·cases h;unfold JO;rw[Y8 (by rfl)];refine⟨n,Qz _,?_⟩;rw[fz r (n+1) _ _ T,lookup_cons_self]
   ·exact absurd h T
structure CellsR(h:Ji)(lo:Nat)(cs acc:List (Jq×Jg)):Prop where
 new:∀n c,cs.lookup n=Ja c->(lo<=c/\h.IsCell c Jb)\/acc.lookup n=Ja c
 apart:∀n n' c,lo<=c->cs.lookup n=Ja c->cs.lookup n'=Ja c->n=n'
theorem oo:∀ (names:List (Jq×JV)) (h:Ji) (v:Nat) (g u:List (Jq×Jg)),CellsR h v u g->(∀n c,u.lookup n=Ja c->c<h.objs.size)->v<=h.objs.size->
  CellsR (Y2 h names) v (JO h.objs.size names u) g
 |[]=>λo0 o0 o0 o0 x o0 o0=>x
 |(m,k)::r=>λh v g u x R l=>by
  unfold Y2 JO
  split
  ·have:=oo r (h.push {cls:= .type "cell",data:= .cell Jb}) v g ((m,h.objs.size)::u)
    ⟨λn c L=>by
     by_cases q:n=m
     ·subst q;obtain rfl:=sj<|lookup_cons_self.symm.trans L;exact .inl ⟨l,⟨_,QL _ rfl,rfl⟩⟩
     ·rw[bL q] at L;exact(x.new n c L).imp (λz=>by obtain⟨a,b⟩:=z;exact⟨a,b.keeps λb o e=>Qm _ e⟩) id,
    λn X c Z N p=>by
     by_cases q:n=m
     ·subst q;obtain rfl:=sj<|lookup_cons_self.symm.trans N;by_cases B:X=n
      ·exact B.symm
      ·rw[bL B] at p;exact absurd (R X _ p)<|KG _
     ·rw[bL q] at N;by_cases B:X=m
      ·subst B;obtain rfl:=sj<|lookup_cons_self.symm.trans p;exact absurd (R n _ N)<|KG _
      ·rw[bL B] at p;exact x.apart n X c Z N p⟩
    (λn c L=>by
     rw[Kv];by_cases q:n=m
     ·subst q;obtain rfl:=sj<|lookup_cons_self.symm.trans L;exact QG _
     ·rw[bL q] at L;exact Wh (R n c L)) (by rw[Kv];exact Wt l)
   rwa [Kv] at this
  ·exact oo r h v g u x R l
section
variable{C:Cx}{A:Jj}{E:Jf->Je->Prop}{s:Je}
noncomputable def compE(scope:Jk)(c:List (Jq×Jg))(L:Jg)(env:Js):Js:=
 {scope,locals:=L,globals:=env.globals,cells:=JO (L+1) scope.names c,qual:=env.qual,func:=Jb,code:=env.code,frame:=env.frame,builtins:=env.builtins}
theorem nY{env:Js}{scope:Jk}{Q:Js->Je->Prop}
  (h:Q (compE scope l s.heap.objs.size env) {s with heap:=Y2 (s.heap.push {cls:= .type "dict",data:= .dict #[]}) scope.names}):
  Jh (Mo C) A (newFunctionEnv scope env.globals l [] env.qual Jb .none (Ja env)) Q E s:=by
 simp only[newFunctionEnv,Option.isSome_some,if_true];refine YG<|wpAny_alloc ?_;refine YG<|wpAny_layCells _ (λn k c=>by cases P:k==NameKind.cell<;>simp) _ _ _ _ ?_;rw[show({s with heap:=s.heap.push {cls:= .type "dict",data:= .dict #[]}}:Je).heap.objs.size=s.heap.objs.size+1 from Kv ..];exact YG<|YH (YH h)
theorem gq{f:Jq×JV->JV}:∀ {names:List (Jq×JV)} {x:Jq},(names.map λp=>(p.1,f p)).lookup x=(names.lookup x).map λk=>f (x,k)
 |[],x=>rfl
 |(n,k)::r,x=>by
  by_cases q:x=n
  ·subst q;simp only[Qw,lookup_cons_self,Wg]
  ·simp only[Qw,bL q];exact gq
theorem lQ{env c:Js}{scope:Jk}(h:env.scope.kind= .function):
  Env.kindOf {c with scope:=relabel scope env} x=(scope.names.lookup x).map λk=>if k= .free/\env.kindOf x=Ja .cell then .cell else k:=by
 show(relabel scope env).names.lookup x=_;have:(relabel scope env).names=scope.names.map λp=>(p.1,if(p.2== .free&&env.scope.kind== .function&&env.kindOf p.1==Ja .cell)=Jc then .cell else p.2):=by
  unfold relabel;refine Qo λp o0=> ?_;obtain⟨n,k⟩:=p;dsimp only
  split<;>rfl
 rw[this,gq]
 congr 1
 funext k;simp only[h,beq_self_eq_true,Bool.and_true,QZ,beq_iff_eq]
theorem kF{sc c:Jk}(h:eC sc c=Jc):c.kind= .function/\(∀n,(n,NameKind.free)∈c.names->sc.names.lookup n=Ja .cell\/sc.names.lookup n=Ja .free)/\(∀n k,(n,k)∈c.names->c.names.lookup n=Ja k):=by
 simp only[eC,QZ,beq_iff_eq,Qy,Ua] at h;obtain⟨⟨⟨⟨⟨N,o0⟩,o0⟩,p⟩,J⟩,o0⟩:=h;refine⟨N,λn o=> ?_,λn k o=>J (n,k) o⟩;have:=p (n,.free) o
 simpa [Yy] using this
structure ScR(sc:Jk)(env:Js):Prop where
 loc:∀y,sc.names.lookup y=Ja .local->env.kindOf y=Ja .local
 cell:∀y,sc.names.lookup y=Ja .cell->env.kindOf y=Ja .cell
 free:∀y,sc.names.lookup y=Ja .free->env.kindOf y=Ja .cell\/env.kindOf y=Ja .free
 glob:∀y,sc.names.lookup y=Ja .globalImplicit->env.kindOf y=Ja .globalImplicit
theorem ScR.self(env:Js):ScR env.scope env:=⟨λo0 h=>h,λo0 h=>h,λo0 h=> .inr h,λo0 h=>h⟩
theorem sL{env:Js}{scope:Jk}{j:List (Jq×Jg)}(W:EnvR C env I σ s.heap)(m:Sim C σ s.heap)(V:ScR sc env)(ok:eC sc scope=Jc)(U:ownOk tg scope=Jc)
  (K:∀x c,j.lookup x=Ja c->env.cells.lookup x=Ja c)(L:∀x,(x,NameKind.free)∈scope.names->∃c,j.lookup x=Ja c)
  {i:Js}(Z:i={compE scope j s.heap.objs.size env with scope:=relabel scope env}){S:Ji}(u:S=Y2 (s.heap.push {cls:= .type "dict",data:= .dict #[]}) scope.names):
  EnvR C i (blank tg I) σ S/\(∀b o,s.heap.get? b=Ja o->S.get? b=Ja o)/\i.locals=s.heap.objs.size/\
  (∀x,scope.names.lookup x=Ja .local->i.kindOf x=Ja .local)/\(∀x,scope.names.lookup x=Ja .cell->i.kindOf x=Ja .cell/\∀c,i.cells.lookup x=Ja c->s.heap.objs.size<=c)/\
  (∀x k,scope.names.lookup x=Ja k->k≠ .free->i.kindOf x=Ja k)/\(∀x,scope.names.lookup x=Ja .free->i.kindOf x=Ja .cell\/i.kindOf x=Ja .free)/\(∀x c,i.cells.lookup x=Ja c->s.heap.objs.size<=c\/env.cells.lookup x=Ja c):=by
 obtain⟨G,X,k3⟩:=kF ok;have X:∀n,(n,NameKind.free)∈scope.names->env.kindOf n=Ja .cell\/env.kindOf n=Ja .free:=λn hn=>(X n hn).elim (λq=> .inl (V.cell n q)) (V.free n);have z:∀x,i.kindOf x=(scope.names.lookup x).map λk=>if k= .free/\env.kindOf x=Ja .cell then .cell else k:=λx=>by rw[Z];exact lQ W.fn
 have kp:∀b o,s.heap.get? b=Ja o->S.get? b=Ja o:=λb o e=>by rw[u];exact pushCells_keeps _ _ b o<|Qm _ e
 have r:i.locals=s.heap.objs.size:=by rw[Z];rfl
 have J:i.cells=JO (s.heap.objs.size+1) scope.names j:=by rw[Z];rfl
 have R:CellsR S (s.heap.objs.size+1) i.cells j:=by
  have:=oo scope.names (s.heap.push {cls:= .type "dict",data:= .dict #[]}) (s.heap.objs.size+1) j j ⟨λn c h=> .inr h,λn n' c Z N Y=>by
   obtain⟨o0,v,o,q,o0⟩:=W.newC n c (K n c N);exact absurd (QS q) (QT.mpr (Kc Z))⟩ (λn c h=>by
    obtain⟨o0,v,o,q,o0⟩:=W.newC n c (K n c h);rw[Kv];exact Wh (QS q)) (by rw[Kv];exact Qz _)
  rw[Kv] at this;rw[J,u];exact this
 have old:∀x c,i.cells.lookup x=Ja c->c<s.heap.objs.size+1->env.cells.lookup x=Ja c:=λx c h q=>by
  rcases R.new x c h with⟨a,o0⟩|a
  ·exact absurd q<|QT.mpr a
  ·exact K x c a
 have P:∀x,scope.names.lookup x=Ja .cell->∃c,s.heap.objs.size+1<=c/\i.cells.lookup x=Ja c:=λx h=>by
  rw[J];exact eN _ _ _ _<|mem_of_lookup h
 have B:∀x,scope.names.lookup x=Ja .free->i.cells.lookup x=j.lookup x:=λx h=>by
  rw[J];refine fz _ _ _ _ λq=> ?_;have:=k3 x .cell q;rw[h] at this;cases this
 have t:Step none1 σ s.heap σ S:= .more kp;refine⟨⟨?_,?_,?_,?_,?_,?_,?_,?_,?_,?_,?_⟩,kp,r,?_,?_,?_,?_,?_⟩
 ·rw[Z];exact G
 ·rw[Z];exact W.glob
 ·rw[Z];exact W.blt
 ·refine⟨λo0=>Jb,?_,λx p T F=> ?_⟩
  ·rw[r,u];exact(Heap.Ns.new s.heap<|.type "dict").keeps (pushCells_keeps _ _)
  ·obtain⟨D,O,o0⟩:=jj T;rw[z] at F;exfalso
   induction e:scope.names.lookup (Qb x) with
   |none=>rw[e] at F;exact ns F
   |some k=>
    rw[e] at F;simp only[Wg,Option.some.injEq] at F
    split at F
    ·cases F
    ·subst F;simp only[ownOk,Qy] at U;have:=U _<|mem_of_lookup e;simp[Vl.Internal.nm] at this
     rcases this with this|⟨y,g,this⟩
     ·exact D<|ofString_inj this
     ·exact O<|ofString_inj this▸g
 ·intro x p T F;obtain⟨D,O,T⟩:=jj T;have f:scope.names.lookup (Qb x)=Ja .free:=by
   rw[z] at F
   induction e:scope.names.lookup (Qb x) with
   |none=>rw[e] at F;rcases F with F|F<;>exact ns F
   |some k=>
    rw[e] at F;simp only[Wg,Option.some.injEq] at F;by_cases M:k= .free
    ·rw[M]
    ·rw[Y7 (λq=>M q.1)] at F
     rcases F with F|F
     ·subst F;simp only[ownOk,Qy] at U;have:=U _<|mem_of_lookup e;simp[Vl.Internal.nm] at this
      rcases this with this|⟨y,g,this⟩
      ·exact absurd (ofString_inj this) D
      ·exact absurd (ofString_inj this▸g) O
     ·exact absurd F M
  obtain⟨c,l⟩:=L _<|mem_of_lookup f;have:=X _<|mem_of_lookup f;obtain⟨Q,v,a,b,d⟩:=W.cell x p T this;have:Q=c:=by have:=K _ _ l;obtain rfl:=sj<|a.symm.trans this;rfl
  subst this;exact⟨Q,v,(B _ f).trans l,b.keeps kp,d.step t⟩
 ·rw[r];exact m.fresh<|Qz _
 ·rw[r];exact m.freshB<|Qz _
 ·intro x c h;by_cases q:c<s.heap.objs.size+1
  ·exact W.baseC x c<|old x c h q
  ·exact m.freshB<|Kc (QT.mp q)
 ·intro x c h
  rcases R.new x c h with⟨a,b⟩|a
  ·exact⟨m.fresh<|Kc a,_,b⟩
  ·obtain⟨q,v,b⟩:=W.newC x c<|K x c a;exact⟨q,v,b.keeps kp⟩
 ·intro x y c N Y;by_cases q:c<s.heap.objs.size+1
  ·exact W.apart x y c (old x c N q)<|old y c Y q
  ·exact R.apart x y c (QT.mp q) N Y
 ·intro x h;rw[z] at h
  induction e:scope.names.lookup x with
  |none=>rw[e] at h;rcases h with h|h<;>exact ns h
  |some k=>
   by_cases M:k= .free
   ·subst M;obtain⟨c,l⟩:=L _<|mem_of_lookup e;exact⟨c,(B _ e).trans l⟩
   ·rw[e] at h;simp only[Wg,Option.some.injEq] at h;rw[Y7 (λq=>M q.1)] at h
    rcases h with h|h
    ·subst h;obtain⟨c,o0,q⟩:=P _ e;exact⟨c,q⟩
    ·exact absurd h M
 ·intro x h;rw[z,h];rfl
 ·intro x h;refine⟨by rw[z,h];rfl,λc hx=> ?_⟩;obtain⟨Q,H,q2⟩:=P x h;obtain rfl:=sj<|hx.symm.trans q2;exact Kc H
 ·intro x k h M;rw[z,h,Wg,Y7 (λq=>M q.1)]
 ·intro x h;rw[z,h,Wg];by_cases q:env.kindOf x=Ja .cell
  ·rw[Y8 ⟨rfl,q⟩];exact .inl rfl
  ·rw[Y7 (λw=>q w.2)];exact .inr rfl
 ·intro x c h
  rcases R.new x c h with⟨a,o0⟩|a
  ·exact .inl<|Kc a
  ·exact .inr<|K x c a
end
section
variable{C:Cx}{A:Jj}{R:Result->Je->Prop}{s:Je}
noncomputable abbrev tests(ifs:List Jl)(env:Js):Sem Bool:=forIn ifs Jc λc r=>if r=Jc then do let ok<-Y3 c env (Jw c env);pure (ForInStep.yield ok) else pure (ForInStep.yield r)
theorem lW{Er:Jf->Je->Prop}(hEr:Er=notedBy (Mo C) A env λe s'=>R (.error e) s')(I:Nat->Je->Prop)
  (turn:∀n s,I n s->Jh (Mo C) A (pyNext it) (λr s₁=>match r with
   |none=>R (.ok .next) s₁
   |some v=>Jh (Mo C) A (letOwnedTupleGo target it v) (λo0 s₁'=>Jh (Mo C) A (assign target env v) (λo0 s₂=>
     Jh (Mo C) A (tests ifs env) (λok s₃=>
      if ok=Jc then Jh (Mo C) A (Jw elt env) (λx s₄=>
       Jh (Mo C) A (call (.builtin "list.append") [acc,x]) (λo0 s₅=>∃m,m<n/\I m s₅) Er s₄) Er s₃
      else∃m,m<n/\I m s₃) Er s₂) Er s₁') Er s₁) Er s)
  (n:Nat)(h:I n s):
  codeAny (Mo C) A (.compLoop (.ListComp elt [⟨target,iter,ifs,0⟩] scope pos) 0 it acc env) R s:=by
 subst hEr;refine codeAny_loop rfl I (λn s hI=> ?_) n h;show Jh _ A ((compTurn (.ListComp elt [⟨target,iter,ifs,0⟩] scope pos) 0 it acc env).onRaise (λx=>do noteFrame x env;theTreesLotGoes x)) _ _ s;refine wpAny_noted ?_;rw[compTurn_list];refine YG<|YK (YG<|YI (turn n s hI) (λr s₁ h₁=> ?_) λo0 o0 h'=>h')
 induction r with
 |none=>exact YH h₁
 |some v=>
  refine YG (YI h₁ (λo0 s₁' h₁'=> ?_) λo0 o0 h'=>h');refine YG<|YI h₁' (λo0 s₂ h₂=>YG<|YI h₂ (λok s₃ h₃=> ?_) λo0 o0 h'=>h') λo0 o0 h'=>h'
  induction ok with
  |false=>exact YH ⟨rfl,h₃⟩
  |true=>
   exact YG<|YG (YI h₃ (λx s₄ h₄=>YG<|YI h₄ (λo0 s₅ h₅=>YH<|YH ⟨rfl,h₅⟩) λo0 o0 h'=>h') λo0 o0 h'=>h')
theorem k9{h S:Ji}{D:Jg}(st:Step none1 σ h σ' S)(g:h.get? D=Ja (lstO v n))(E:σ D=Jb):S.get? D=Ja (lstO v n)/\σ' D=Jb:=by
 obtain⟨a,o,b,c⟩:=st.keep D _ g E;rw[(c λf=>f.elim).eq (by simp)] at b;exact⟨b,a⟩
theorem t2(h:i<n):n-(i+1)+1<n-i+1:=WR<|Nat.sub_succ_lt_self n i h
structure CompAt(C:Cx)(St:Nat->PH->Ji->Prop)(cenv:Js)(ρb:Rho)(go:List PV->List PV->PH->Prop)(xs:List PV)(σ:PH)(s₀:Je)(D:Jg)(i:Nat)(acc:List PV)(σ':PH)(av:Array Jf)(nn:Nat)(s':Je):Prop where
 le:i<=xs.length
 ai:acc.length<=i
 st:St i σ' s'.heap
 m:Sim C σ' s'.heap
 ev:EnvR C cenv ρb σ' s'.heap
 step:Step none1 σ s₀.heap σ' s'.heap
 rest:Rest s₀ s'
 hD:s'.heap.get? D=Ja (lstO av nn)
 nD:σ' D=Jb
 hacc:VRs C σ' s'.heap acc av.toList
 go:go (xs.drop i) acc σ'
theorem qN{I D:Jg}{St:Nat->PH->Ji->Prop}{xs:List PV}{chk:PH->Prop}{H:Js}{tg:Tg}
  {tst:Rho->PH->(Bool->PH->Prop)->Prop}{el:Rho->PH->Post->Prop}{K:List PV->PH->Prop}{s₀:Je}
  (S:Src C A t I fp xs chk St)(ht:mTg sc tg t=Jc)(own:∀x∈tg.names,H.kindOf (Qb x)=Ja .local\/H.kindOf (Qb x)=Ja .cell)
  (ae:∀c,slot H tg.names c->s₀.heap.get? c=Jb)(a2:∀b∈fp,s₀.heap.get? b=Jb)(DF:s₀.heap.get? D=Jb)(DB:C.B.get? D=Jb)
  (an:H.locals∉fp)(am:∀x c,H.cells.lookup x=Ja c->c∉fp)(af:D∉fp)(ak:AOK C n A l σ s₀.heap)(T:xs.length<=lim)
  (ay:∀ρ' σ' s' Kb,EnvR C H ρ' σ' s'.heap->Sim C σ' s'.heap->AOK C n A l σ' s'.heap->tst ρ' σ' Kb->∀ai,Jh (Mo C) A (tests aq H) (λok ao=>∃j,A4 (Sim C j ao.heap) (Step none1 σ' s'.heap j ao.heap) (Rest s' ao)<|Kb ok j) ai s')
  (bd:∀ρ' σ' s' Q,EnvR C H ρ' σ' s'.heap->Sim C σ' s'.heap->AOK C n A l σ' s'.heap->el ρ' σ' Q->∀ai,Jh (Mo C) A (Jw a0 H) (VP C none1 σ' s' Q) ai s')
  (hR:∀a X z d F,Sim C X z.heap->Step none1 σ s₀.heap X z.heap->Rest s₀ z->z.heap.get? D=Ja (lstO d F)->VRs C X z.heap a d.toList->X D=Jb->(∃m,z.heap.Ns H.locals m)->X H.locals=Jb->K a X->R (.ok .next) z)(O:St 0 σ1 s.heap)(m:Sim C σ1 s.heap)(ev:EnvR C H (blank tg ρ) σ1 s.heap)(st:Step none1 σ s₀.heap σ1 s.heap)(r:Rest s₀ s)(hD:s.heap.get? D=Ja (lstO #[] 0))(Y:σ1 D=Jb)
  (h:fG chk tg ρ tst el xs [] σ1 K):
  codeAny (Mo C) A (.compLoop (.ListComp a0 [⟨t,iter,aq,0⟩] scope pos) 0 (.ref I) (.ref D) H) R s:=by
 refine lW rfl (λk s'=>X5 λi a σ' d F=>k=xs.length-i+1/\CompAt C St H (blank tg ρ) (λxs a σ=>fG chk tg ρ tst el xs a σ K) xs σ s₀ D i a σ' d F s') ?_ _
  ⟨0,[],σ1,#[],0,rfl,⟨QN _,QN _,O,m,ev,st,r,hD,Y,rfl,h⟩⟩
 clear O m ev st r hD Y h;intro k s' hI;obtain⟨i,a,σ',d,F,rfl,I⟩:=hI;have h:=I.go;have ac:=I.ai;have O:=I.st;have m:=I.m;have ev:=I.ev;have st:=I.step;have r:=I.rest;have hD:=I.hD;have Y:=I.nD;have W:=I.hacc;have hi:=I.le;clear I;by_cases N:i<xs.length
 ·have hx:xs[i]? =Ja xs[i]:=Qf N;rw[List.drop_eq_getElem_cons N] at h;obtain⟨ar,h⟩:=h;obtain⟨ρ',hb,h⟩:=om h;refine S.item hx m ar O λv s1 au=> ?_;refine au _ _ λz hv m2 G a5 r2=> ?_;have fo:=S.fok O
  ·have ba:=ev.mv G fo an am;have a1:=G D _ af hD;have aa:=W.mv G fo;have bf:=st.mv G a2;refine g8 (λo0=>S.hdn) ht ba m2 own hv hb λs3 L az r3=> ?_;have a7:¬slot H tg.names D:=λq=>by
    obtain⟨o0,o0⟩:=L.has D q;exact absurd ⟨d,F,rfl⟩<|(L.has D q).1 _ a1
   have a6:∀b∈fp,¬slot H tg.names b:=λb hb=>by
    rintro ⟨x,o0,q|q⟩
    ·exact an<|q.2▸hb
    ·exact am _ _ q.2 hb
   have bh:=L.mv D _ a7 a1;have ap:=aa.mv L.mv L.fok;have a4:=bf.mv L.mv ae;have as:=S.mv a5 L.mv L.fok a6;have weak:∀ {u h4},EnvR C H ρ' u h4->EnvR C H (blank tg ρ) u h4:=λx=>x.weak λy q e=>qE hb e;refine YI (ay ρ' σ' s3 _ az L.sim (ak.step a4) h _) (λok s4 h4=> ?_) λo0 o0 x=>x;obtain⟨u,m4,V,r4,h⟩:=h4;have E:=S.step as V (λo0 o0 f=>f);obtain⟨ax,U⟩:=k9 V bh Y;have aj:=az.step V;have M:=ap.step V;have ah:=a4.trans V
   induction ok with
   |false=>
    exact⟨xs.length-(i+1)+1,t2 N,i+1,a,u,d,F,rfl,⟨N,Wt ac,E,m4,weak aj,ah,((r.trans r2).trans r3).trans r4,ax,U,M,h⟩⟩
   |true=>
    refine YI (bd ρ' u s4 _ aj m4 (ak.step ah) h _) (λy s5 h5=> ?_) λo0 o0 x=>x;obtain⟨p,P,bc,m5,J,r5,h⟩:=h5;have aw:=S.step E J (λo0 o0 f=>f);obtain⟨w,B⟩:=k9 J ax U;have al:=aj.step J;have ab:=M.step J;have bb:=ah.trans J;have bg:d.size=a.length:=by simpa using W.length
    refine wpAny_list_append_plain ⟨F,w⟩ (λh6 ad a8=> ?_) (by rw[bg];simp only[lim] at T;exact Qq (Qq ac<|KJ N)<|Qq T (by decide));obtain⟨n6,ad⟩:=ad;have g:Mv (· =D) s5.heap h6:=λc o f e=>a8.extBut c o f e;have Z:Fok C P s5.heap (· =D):=λc f=>by
     have f:c=D:=f;subst f;exact⟨DB,B,kH w<|by simp⟩
    have m6:Sim C P h6:=m5.mv g Z;have a9:EnvR C H ρ' P h6:=al.mv g Z (λq=>by
      obtain⟨o0,⟨o,es,ep,e,hd,o0⟩,o0⟩:=al.ns;have q:H.locals=D:=q;rw[q,w] at e;obtain rfl:=sj e;cases hd) λy c hc q=>by
       have q:c=D:=q;subst q;obtain⟨o0,v1,o1,q1,q2⟩:=al.newC y _ hc;obtain rfl:=sj<|w.symm.trans q1;cases q2
    refine⟨xs.length-(i+1)+1,t2 N,i+1,a++[p],P,d.push y,n6,rfl,⟨N,by rw[QD];exact KM ac,S.mv aw g Z (λb hb q=>af (by rw[<-(q:b=D)];exact hb)),m6,weak a9,
     bb.mv g (λc f=>by have f:c=D:=f;subst f;exact DF),(((r.trans r2).trans r3).trans r4).trans r5,ad,B,?_,h⟩⟩
    rw[Array.toList_push];exact(ab.append<|by exact⟨y,[],rfl,bc,rfl⟩).mv g Z
 ·have be:i=xs.length:=Nat.le_antisymm hi<|QT.mp N;subst be;rw[List.drop_length] at h;refine S.done m h.1 O λz m2 G r2=> ?_;have fo:=S.fok O;refine hR a σ' z d F m2 (st.mv G a2) (r.trans r2) (G D _ af hD) (W.mv G fo) Y ?_ ev.newL h.2;obtain⟨mm,hn,o0⟩:=(ev.mv G fo an am).ns;exact⟨mm,hn⟩
end
def iZ(C:Cx)(A:Jj)(env:Js)(t iter:Jl)(σ:PH)(s:Je)(K:List PV->(PH->Prop)->PH->Prop)(Er:Jf->Je->Prop):Prop:=
 ∀R:Jf->Je->Prop,(∀I f S m W P c,Src C A t I f P c S->S 0 m W.heap->Sim C m W.heap->Step none1 σ s.heap m W.heap->Rest s W->
  (∀b∈f,s.heap.get? b=Jb/\b<W.heap.objs.size)->P.length<=lim->K P c m->R (.ref I) W)->
  Jh (Mo C) A (Jw iter env) (λx k=>Jh (Mo C) A (YO x) R Er k) Er s
section
variable{C:Cx}{σ:PH}{h:Ji}{D:Jg}{po:PO}
mutual
theorem VR.adopt(nt:∀vs n,h.get? D≠Ja (tupO vs n)):∀ (p:PV) (v:Jf),VR C σ h p v->VR C (σ.set D po) h p v
 | .none=>λo0 e=>e
 | .bool _=>λo0 e=>e
 | .int _=>λo0 e=>e
 | .str _=>λo0 e=>e
 | .ref _=>λo0 e=>e
 | .scr _=>λo0 e=>e
 | .tup l=>λv e=>by
  obtain⟨a,n,vs,T,es,w,V⟩:=e;refine⟨a,n,vs,T,?_,w,VRs.adopt nt l _ V⟩;rw[PH.set_ne]
  ·exact es
  ·rintro rfl;exact nt vs n w
theorem VRs.adopt(nt:∀vs n,h.get? D≠Ja (tupO vs n)):∀ (l:List PV) (vs:List Jf),VRs C σ h l vs->VRs C (σ.set D po) h l vs
 |[]=>λo0 e=>e
 |p::ps=>λvs e=>by
  obtain⟨v,r,T,w,X⟩:=e;exact⟨v,r,T,VR.adopt nt p v w,VRs.adopt nt ps r X⟩
end
theorem OR.adopt(E:σ D=Jb)(nt:∀vs n,h.get? D≠Ja (tupO vs n)):∀ (p:PO) (o:Jp),OR C σ h p o->OR C (σ.set D po) h p o:=λp o r=>by
 have b:∀ {x:Jg} {q:PO},σ x=Ja q->(σ.set D po) x=Ja q:=λw=>(PH.set_ne _ _ λz=>ns<|E.symm.trans (z▸w)).trans w
 induction p with
 |list l=>obtain⟨vs,n,F,X⟩:=r;exact⟨vs,n,F,VRs.adopt nt _ _ X⟩
 |dict=>
  obtain⟨U,H,P,x,d,e,k,nd,a,v⟩:=r;refine⟨U,H,P,x,d,e,k,nd,λy W=> ?_,VRs.adopt nt _ _ v⟩;obtain⟨n,vs,m,g,i⟩:=a y W;exact⟨(PH.set_ne _ _ λz=>by rw[z] at g;exact nt vs m g).trans n,vs,m,g,i⟩
 |fd=>obtain⟨U,H,e,k,v,z⟩:=r;exact⟨U,H,e,k,λi f p N Y=>(v i f p N Y).imp λu q=>⟨q.1,VR.adopt nt _ _ q.2⟩,z⟩
 |inst d=>obtain⟨k,T,F,X,I,V⟩:=r;exact⟨k,T,F,X,I,V.imp λL w=>b w⟩
theorem Sim.adopt(m:Sim C σ h)(E:σ D=Jb)(nt:∀vs n,h.get? D≠Ja (tupO vs n))(e:h.get? D=Ja W)(b:C.B.get? D=Jb)(r:OR C σ h po W)(T:po.needs C.ok D:=by trivial):Sim C (σ.set D po) h where
 rich:=λx o g=>by
  by_cases q:x=D
  ·subst q;rw[PH.set_same] at g;obtain rfl:=sj g;exact T
  ·rw[PH.set_ne _ _ q] at g;exact m.rich x o g
 base:=m.base
 new:=λx o g=>by
  by_cases q:x=D
  ·subst q;exact b
  ·rw[PH.set_ne _ _ q] at g;exact m.new x o g
 objs:=λx o g=>by
  by_cases q:x=D
  ·subst q;rw[PH.set_same] at g;obtain rfl:=sj g;exact⟨W,e,r.adopt E nt⟩
  ·rw[PH.set_ne _ _ q] at g;obtain⟨P,N,p⟩:=m.objs x o g;exact⟨P,N,p.adopt E nt⟩
end
theorem kX{sc:Jk}(h:isOwn sc y=Jc):sc.names.lookup y=Ja .local\/sc.names.lookup y=Ja .cell:=by
 simpa [isOwn,Yy] using h
theorem j1{sc:Jk}:∀ {xs:List String} {es:List Jl},dQ sc xs es=Jc->∀x∈xs,sc.names.lookup (Qb x)=Ja .local\/sc.names.lookup (Qb x)=Ja .cell
 |[],[]=>λo0 x hx=>by cases hx
 |[],_::_=>λhm o0 o0=>by exact ft hm
 |x::xs,[]=>λhm o0 o0=>by exact ft hm
 |x::xs,e::es=>λhm y hy=>by
  induction e using Expr.casesOn with
  |Name z pos=>
   obtain⟨rfl,h1,h2⟩:=oM hm
   rcases QB.mp hy with rfl|hy
   ·exact kX h1
   ·exact j1 h2 y hy
  |_=>first|exact bnx hm|exact onx hm|cases hm
theorem pD{sc:Jk}{tg:Tg}(h:mTg sc tg t=Jc):∀x∈tg.names,sc.names.lookup (Qb x)=Ja .local\/sc.names.lookup (Qb x)=Ja .cell:=by
 induction tg with
 |name x=>
  induction t using Expr.casesOn with
  |Name y pos=>
   obtain⟨rfl,h1⟩:=rK h;intro z hz;simp only[Tg.names,Qk] at hz;subst hz;exact kX h1
  |_=>first|exact bnx h|exact onx h|cases h
 |tup xs=>
  induction t using Expr.casesOn with
  |Tuple es a b=>exact j1 (show dQ sc xs es=Jc from h)
  |_=>first|exact bnx h|exact onx h|cases h
section
variable{C:Cx}{A:Jj}{s:Je}
theorem pf
  {tst:Rho->PH->(Bool->PH->Prop)->Prop}{el:Rho->PH->Post->Prop}{use:Option (Jf->Sem Unit)}{Q' Er:Jf->Je->Prop}
  (ev:EnvR C env ρ σ s.heap)(ak:AOK C n A l σ s.heap)(sr:ScR sc env)(ok:eC sc scope=Jc)(ow:ownOk tg scope=Jc)(ht:mTg scope tg t=Jc)
  (hs:∀x,JQ iter env x=pure x)
  (au:iZ C A env t iter σ s (λxs chk σ1=>fG chk tg ρ tst el xs [] σ1 λa r=>wnew (.list a) r Q) Er)
  (ah:∀H,ScR scope H->∀ρ' σ' s' Kb,EnvR C H ρ' σ' s'.heap->Sim C σ' s'.heap->AOK C n A l σ' s'.heap->tst ρ' σ' Kb->∀E,Jh (Mo C) A (tests K H) (λok N=>∃j,A4 (Sim C j N.heap) (Step none1 σ' s'.heap j N.heap) (Rest s' N)<|Kb ok j) E s')
  (ao:∀H,ScR scope H->∀ρ' σ' s' Q,EnvR C H ρ' σ' s'.heap->Sim C σ' s'.heap->AOK C n A l σ' s'.heap->el ρ' σ' Q->∀E,Jh (Mo C) A (Jw ai H) (VP C none1 σ' s' Q) E s')
  (d:∀D σ3 s3 L,Sim C σ3 s3.heap->Step none1 σ s.heap σ3 s3.heap->Rest s s3->s.heap.get? L=Jb->σ3 L=Jb->C.B.get? L=Jb->(∃m,s3.heap.Ns L m)->Q (.ref D) σ3->compPost (Mo C) A Er use Q' (.ref D) L (.ok .next) s3):
  Jh (Mo C) A (comprehension (.ListComp ai [⟨t,iter,K,0⟩] scope pos) scope env aj (newList []) Jd (Jw iter env) use) Q' Er s:=by
 obtain⟨k1,k2,k3⟩:=kF ok;have ar:∀n,(n,NameKind.free)∈scope.names->env.kindOf n=Ja .cell\/env.kindOf n=Ja .free:=λn hn=>(k2 n hn).elim (λq=> .inl (sr.cell n q)) (sr.free n);obtain⟨cl,c0,c1,c2⟩:=kQ (env:=env) (scope:=scope) λn hn=>ev.hasC n<|ar n hn;refine wpAny_comprehension_free (g:=⟨t,iter,K,0⟩) (gs:=[]) rfl hs c0 k1 (λx hx hl=>by have:=k3 x.1 x.2 hx;rw[hl] at this;exact this) ?_;refine au _ λI fp St σ1 W xs chk S an M P r1 p ab as=> ?_;refine JB ?_;refine nY ?_;generalize Z:({W with heap:=W.heap.push {cls:= .type "list",dict:=Jb,data:= .seq ([]:List Jf).toArray}}:Je)=s2;have F:s2.heap=W.heap.push (lstO #[] 0):=by rw[<-Z]
 have U:Rest W s2:=by rw[<-Z];exact⟨rfl,rfl⟩
 have Y:∀b o,W.heap.get? b=Ja o->s2.heap.get? b=Ja o:=λb o e=>by rw[F];exact Qm _ e
 have m2:Sim C σ1 s2.heap:=M.more Y;have J:Step none1 σ s.heap σ1 s2.heap:=P.trans<|.more Y;have z:s2.heap.objs.size=W.heap.objs.size+1:=by rw[F,Kv]
 obtain⟨G,k,T,q1,q2,q3,q4,q5⟩:=sL (s:=s2) (tg:=tg) (ev.step J) m2 sr ok ow c1 c2 rfl rfl;generalize ax:({compE scope cl s2.heap.objs.size env with scope:=relabel scope env}:Js)=H at G T q1 q2 q3 q4 q5 ⊢;generalize aw:Y2 (s2.heap.push {cls:= .type "dict",data:= .dict #[]}) scope.names=h3 at G k ⊢;have ae:ScR scope H:=⟨q1,λy h=>(q2 y h).1,q4,λy h=>q3 y _ h<|by simp⟩
 have aq:Step none1 σ s.heap σ1 h3:=J.trans<|.more k;have m3:Sim C σ1 h3:=m2.more k;have O:St 0 σ1 h3:=S.step (S:=none1) an (.more λb o e=>k b o<|Y b o e) (λo0 o0 f=>f);have e1:W.heap.get? W.heap.objs.size=Jb:=jw _<|Qz _;have e2:∀c,s2.heap.objs.size<=c->s.heap.get? c=Jb:=λc hc=>J.old m2<|jw _ hc;have aa:s2.heap.get? W.heap.objs.size=Ja (lstO #[] 0):=by rw[F];exact QL _ rfl
 have own:∀x∈tg.names,scope.names.lookup (Qb x)=Ja .local\/scope.names.lookup (Qb x)=Ja .cell:=pD ht;have V:=λ(s':Je) (B:s'={s2 with heap:=h3})=>qN (s:=s') (scope:=scope) (iter:=iter) (pos:=pos) (R:=compPost (Mo C) A Er use Q' (.ref W.heap.objs.size) H.locals) (s₀:=s) S ht
  (λx hx=>(own x hx).imp (q1 _) λh=>(q2 _ h).1)
  (λc hc=>by
   obtain⟨x,hx,w|w⟩:=hc
   ·rw[w.2,T];exact e2 _<|Qz _
   ·rcases own x hx with h|h
    ·rw[q1 _ h] at w;cases w.1
    ·exact e2 _ ((q2 _ h).2 c w.2))
  (λb hb=>(p b hb).1) (P.old M e1) (M.freshB<|Qz _)
  (λX=>by rw[T] at X;exact absurd (p _ X).2 (QT.mpr<|by rw[z];exact Wo _))
  (λx c hc X=>by
   rcases q5 x c hc with w|w
   ·exact absurd (p c X).2 (QT.mpr<|Qq (by rw[z];exact Wo _) w)
   ·obtain⟨o0,v,o,e,o0⟩:=ev.newC x c w;exact ns (((p c X).1).symm.trans e))
  (λX=>absurd (p _ X).2 (KG _)) ak ab (ah H ae) (ao H ae)
  (λa r s4 av nn m4 ap r4 ac af u z' ad hq=>by
   obtain⟨mm,hn⟩:=z';have al:H.locals≠W.heap.objs.size:=by rw[T,z];exact Nat.succ_ne_self _
   have nt:=kH ac (by simp);refine d W.heap.objs.size (r.set W.heap.objs.size<|.list a) s4 H.locals ?_ (ap.add _ (P.old M e1) ?_) r4 (by rw[T];exact e2 _<|Qz _) (by rw[PH.set_ne _ _ al];exact ad) (by rw[T];exact m2.freshB<|Qz _) ⟨mm,hn⟩<|hq _ u
   ·exact m4.adopt u nt ac (M.freshB<|Qz _) ⟨av,nn,rfl,af⟩
   ·induction w:σ W.heap.objs.size with
    |none=>rfl
    |some o=>obtain⟨o',w'⟩:=P.grow _ o w;exact ns ((M.fresh (Qz _)).symm.trans w'))
  (σ1:=σ1) (by rw[B];exact O) (by rw[B];exact m3) (by rw[B];exact G) (by rw[B];exact aq) (by rw[B];exact r1.trans U) (by rw[B];exact k _ _ aa) (M.fresh<|Qz _) as
 have am:(compE scope cl s2.heap.objs.size env).locals=H.locals:=by rw[T];rfl
 rw[am];exact codeAny_compStart_list (V _ rfl)<|S.self (σ:=σ1) (i:=0) O (V _ rfl)
theorem mP
  {tst:Rho->PH->(Bool->PH->Prop)->Prop}{el:Rho->PH->Post->Prop}
  (J:EnvR C env T σ s.heap)(R:AOK C n A l σ s.heap)(r:ScR sc env)(ok:eC sc scope=Jc)(Z:ownOk tg scope=Jc)(H:mTg scope tg t=Jc)
  (V:∀x,JQ iter env x=pure x)
  (w:iZ C A env t iter σ s (λxs chk σ1=>fG chk tg T tst el xs [] σ1 λa O=>wnew (.list a) O Q) (XP C none1 σ s X))
  (P:∀v,ScR scope v->∀ρ' σ' s' K,EnvR C v ρ' σ' s'.heap->Sim C σ' s'.heap->AOK C n A l σ' s'.heap->tst ρ' σ' K->∀E,Jh (Mo C) A (tests i v) (λok W=>∃j,A4 (Sim C j W.heap) (Step none1 σ' s'.heap j W.heap) (Rest s' W)<|K ok j) E s')
  (q:∀v,ScR scope v->∀ρ' σ' s' Q,EnvR C v ρ' σ' s'.heap->Sim C σ' s'.heap->AOK C n A l σ' s'.heap->el ρ' σ' Q->∀E,Jh (Mo C) A (Jw g v) (VP C none1 σ' s' Q) E s'):
  EOK C A σ s (Jw (.ListComp g [⟨t,iter,i,0⟩] scope pos) env) Q X:=by
 show Jh _ _ _ _ _ _;rw[eval_ListComp];refine pf (use:=Jb) J R r ok Z H V w P q λD p u L M y k I Y U z F=> ?_;obtain⟨m,b⟩:=z;refine⟨m,b,λS B=> ?_⟩;have mv:Mv (· =L) u.heap S:=λc o f e=>B.extBut c o f e;obtain⟨o,es,ep,d,G,o0⟩:=b;have N:Fok C p u.heap (· =L):=λc f=>by
  have f:c=L:=f;subst f;exact⟨U,Y,gQ d<|dA G⟩
 refine⟨.ref D,p,rfl,M.mv mv N,y.mv mv (λc f=>by have f:c=L:=f;subst f;exact I),k,F⟩
end
noncomputable def se(x:Jl):Nat->Prop
 |0=>X3 λc k p=>x= .Constant c k p
 |1=>∃y p,x= .Name y p
 |2=>X4 λl o r p=>x= .BinOp l o r p
 |3=>X3 λo y p=>x= .UnaryOp o y p
 |4=>X3 λo w p=>x= .BoolOp o w p
 |5=>X4 λl Q R p=>x= .Compare l Q R p
 |7=>X3 λs k p=>x= .Tuple s k p
 |8=>∃s p,x= .List s p
 |10=>X3 λu v p=>x= .Subscript u v p
 |11=>X4 λe g sc p=>x= .ListComp e g sc p
 |12=>X4 λf a F p=>x= .Call f a F p
 |13=>X3 λy z p=>x= .Attribute y z p
 |14=>X4 λV h t p=>x= .Slice V h t p
 |15=>X3 λi w p=>x= .Dict i w p
 |_=>True
theorem xinv(x:Jl):se x (xk x):=by
 induction x using Expr.casesOn with
 |Constant c k p=>exact(⟨c,k,p,rfl⟩:X3 λc' k' p'=>Expr.Constant c k p= .Constant c' k' p')
 |Name y p=>exact(⟨y,p,rfl⟩:∃y' p',Expr.Name y p= .Name y' p')
 |BinOp l o r p=>exact(⟨l,o,r,p,rfl⟩:X4 λl' o' r' p'=>Expr.BinOp l o r p= .BinOp l' o' r' p')
 |UnaryOp o y p=>exact(⟨o,y,p,rfl⟩:X3 λo' y' p'=>Expr.UnaryOp o y p= .UnaryOp o' y' p')
 |BoolOp o vs p=>exact(⟨o,vs,p,rfl⟩:X3 λo' vs' p'=>Expr.BoolOp o vs p= .BoolOp o' vs' p')
 |Compare l os cs p=>exact(⟨l,os,cs,p,rfl⟩:X4 λl' os' cs' p'=>Expr.Compare l os cs p= .Compare l' os' cs' p')
 |Tuple es k p=>exact(⟨es,k,p,rfl⟩:X3 λes' k' p'=>Expr.Tuple es k p= .Tuple es' k' p')
 |List es p=>exact(⟨es,p,rfl⟩:∃es' p',Expr.List es p= .List es' p')
 |Subscript u v p=>exact(⟨u,v,p,rfl⟩:X3 λu' v' p'=>Expr.Subscript u v p= .Subscript u' v' p')
 |ListComp e gs sc p=>exact(⟨e,gs,sc,p,rfl⟩:X4 λe' gs' sc' p'=>Expr.ListComp e gs sc p= .ListComp e' gs' sc' p')
 |Call f as kw p=>exact(⟨f,as,kw,p,rfl⟩:X4 λf' as' kw' p'=>Expr.Call f as kw p= .Call f' as' kw' p')
 |Attribute y z p=>exact(⟨y,z,p,rfl⟩:X3 λy' z' p'=>Expr.Attribute y z p= .Attribute y' z' p')
 |Slice lo hi st p=>exact(⟨lo,hi,st,p,rfl⟩:X4 λlo' hi' st' p'=>Expr.Slice lo hi st p= .Slice lo' hi' st' p')
 |Dict ks vs p=>exact(⟨ks,vs,p,rfl⟩:X3 λks' vs' p'=>Expr.Dict ks vs p= .Dict ks' vs' p')
 |_=>exact True.intro
noncomputable def sY(x:Jo):Nat->Prop
 |0=>X3 λs v p=>x= .Assign s v p
 |1=>∃v p,x= .Expr v p
 |2=>∃v p,x= .Return v p
 |3=>X4 λu y z p=>x= .If u y z p
 |4=>X5 λt i y z p=>x= .For t i y z p
 |5=>X4 λt y z p=>x= .While t y z p
 |6=>X3 λv c p=>x= .Raise v c p
 |7=>X5 λy h z w p=>x= .Try y h z w p
 |_=>True
theorem sinv(x:Jo):sY x (sk x):=by
 induction x using Stmt.casesOn with
 |Assign ts v p=>exact(⟨ts,v,p,rfl⟩:X3 λts' v' p'=>Stmt.Assign ts v p= .Assign ts' v' p')
 |Expr v p=>exact(⟨v,p,rfl⟩:∃v' p',Stmt.Expr v p= .Expr v' p')
 |Return v p=>exact(⟨v,p,rfl⟩:∃v' p',Stmt.Return v p= .Return v' p')
 |If u y z p=>exact(⟨u,y,z,p,rfl⟩:X4 λu' y' z' p'=>Stmt.If u y z p= .If u' y' z' p')
 |For t i y z p=>exact(⟨t,i,y,z,p,rfl⟩:X5 λt' i' y' z' p'=>Stmt.For t i y z p= .For t' i' y' z' p')
 |While t y z p=>exact(⟨t,y,z,p,rfl⟩:X4 λt' y' z' p'=>Stmt.While t y z p= .While t' y' z' p')
 |Raise v c p=>exact(⟨v,c,p,rfl⟩:X3 λv' c' p'=>Stmt.Raise v c p= .Raise v' c' p')
 |Try y hs z w p=>exact(⟨y,hs,z,w,p,rfl⟩:X5 λy' hs' z' w' p'=>Stmt.Try y hs z w p= .Try y' hs' z' w' p')
 |_=>exact True.intro
theorem dt(h:(xk x==k&&b)=Jc):se x k/\b=Jc:=by
 obtain⟨N,p⟩:=Qg.mp h;have:=xinv x;rw[beq_iff_eq.mp N] at this;exact⟨this,p⟩
theorem jA(h:(sk x==k&&b)=Jc):sY x k/\b=Jc:=by
 obtain⟨N,p⟩:=Qg.mp h;have:=sinv x;rw[beq_iff_eq.mp N] at this;exact⟨this,p⟩
theorem and2(h:(a&&b)=Jc):a=Jc/\b=Jc:=Qg.mp h
theorem and3(h:(a&&b&&c)=Jc):a=Jc/\b=Jc/\c=Jc:=⟨(and2 (and2 h).1).1,(and2 (and2 h).1).2,(and2 h).2⟩
theorem and4{a b c d:Bool}(h:(a&&b&&c&&d)=Jc):a=Jc/\b=Jc/\c=Jc/\d=Jc:=by obtain⟨N,p⟩:=and2 h;exact by obtain⟨J,w,B⟩:=and3 N;exact⟨J,w,B,p⟩
theorem and5{a b c d e:Bool}(h:(a&&b&&c&&d&&e)=Jc):a=Jc/\b=Jc/\c=Jc/\d=Jc/\e=Jc:=by obtain⟨N,p⟩:=and2 h;exact by obtain⟨J,w,B,W⟩:=and4 N;exact⟨J,w,B,W,p⟩
theorem and6{a b c d e f:Bool}(h:(a&&b&&c&&d&&e&&f)=Jc):a=Jc/\b=Jc/\c=Jc/\d=Jc/\e=Jc/\f=Jc:=by obtain⟨N,p⟩:=and2 h;exact by obtain⟨J,w,B,W,S⟩:=and5 N;exact⟨J,w,B,W,S,p⟩
theorem nmE(h:Vl.Internal.nm y x=Jc):y=Qb x:=beq_iff_eq.mp h
section
variable{sc:Jk}{x:Jl}{P:Jl->Prop}
theorem gX(h:hCst c x=Jc)(k:∀n p,P (.Constant c n p)):P x:=by
 obtain⟨⟨c,n,p,rfl⟩,h⟩:=dt (k:=0) (b:=tT _ x) h;obtain rfl:=Y6 h;exact k n p
theorem hW{f:Jq->Bool}(h:hName f y x=Jc)(k:∀p,f (Qb y)=Jc->bu (Qb y)=Jc->P (.Name (Qb y) p)):P x:=by
 obtain⟨⟨z,p,rfl⟩,h⟩:=dt (k:=1) (b:=qName f y x) h;have h:=and3 h;obtain rfl:=nmE h.1;exact k p h.2.1 h.2.2
theorem zh(h:hBin V f g x=Jc)(k:∀l o r p,mOp V o=Jc->f l=Jc->g r=Jc->P (.BinOp l o r p)):P x:=by
 obtain⟨⟨l,o,r,p,rfl⟩,h⟩:=dt (k:=2) (b:=qBin V f g x) h;have h:=and3 h;exact k l o r p h.1 h.2.1 h.2.2
theorem Ay(h:(xk x==3&&qUn u f x)=Jc)(k:∀y p,f y=Jc->P (.UnaryOp u y p)):P x:=by
 obtain⟨⟨o,y,p,rfl⟩,h⟩:=dt h;have h:=and2 h;obtain rfl:=Y6 h.1;exact k y p h.2
theorem sV(h:(xk x==4&&qBool u f g x)=Jc)(k:∀y z p,f y=Jc->g z=Jc->P (.BoolOp u [y,z] p))(A:∀y z w r p,f y=Jc->g (.BoolOp u (z::w::r) p)=Jc->P (.BoolOp u (y::z::w::r) p)):P x:=by
 obtain⟨⟨o,v,p,rfl⟩,h⟩:=dt h
 rcases v with o0|⟨y,o0|⟨z,o0|⟨w,r⟩⟩⟩
 ·exact ft h
 ·exact ft h
 ·have h:=and2 h;obtain rfl:=Y6 h.1;exact k y z p (and2 h.2).1 (and2 h.2).2
 ·have h:=and2 h;obtain rfl:=Y6 h.1;exact A y z w r p (and2 h.2).1 (and2 h.2).2
theorem zN(h:(xk x==5&&qIs u f g x)=Jc)(k:∀l c p,f l=Jc->g c=Jc->P (.Compare l [u] [c] p)):P x:=by
 obtain⟨⟨l,s,F,p,rfl⟩,h⟩:=dt h
 rcases s with o0|⟨o,o0|⟨o0,o0⟩⟩<;>rcases F with _|⟨c,_|⟨_,_⟩⟩<;>first|exact ft h|skip
 have h:=and2 h;obtain rfl:=Y6 h.1;exact k l c p (and2 h.2).1 (and2 h.2).2
theorem eI(h:kz x=Jc):∀y p,x≠ .Starred y p:=by rintro y p rfl;exact ft h
theorem nt(h:(!b)=Jc):b=Jd:=(Ka _).mp h
theorem y6(h:hCmp V f g x=Jc)(k:∀l o r p,mC V o=Jc->f l=Jc->g r=Jc->JG o r=Jd->P (.Compare l [o] [r] p)):P x:=by
 obtain⟨⟨l,s,F,p,rfl⟩,h⟩:=dt (k:=5) (b:=qCmp V f g x) h
 rcases s with o0|⟨o,o0|⟨o0,o0⟩⟩<;>rcases F with _|⟨c,_|⟨_,_⟩⟩<;>first|exact ft h|skip
 have h:=and4 h;exact k l o c p h.1 h.2.1 h.2.2.1<|nt h.2.2.2
theorem yC(h:hCmp2 v u f g e x=Jc)(k:∀l o r m M p,mC v o=Jc->mC u r=Jc->f l=Jc->g m=Jc->e M=Jc->JG r M=Jd->P (.Compare l [o,r] [m,M] p)):P x:=by
 obtain⟨⟨l,s,c,p,rfl⟩,h⟩:=dt (k:=5) (b:=qCmp2 v u f g e x) h
 rcases s with o0|⟨o,o0|⟨r,o0|⟨o0,o0⟩⟩⟩<;>first|exact ft h|skip
 rcases c with o0|⟨m,o0|⟨M,o0|⟨o0,o0⟩⟩⟩<;>first|exact ft h|skip
 have h:=and6 h;exact k l o r m M p h.1 h.2.1 h.2.2.1 h.2.2.2.1 h.2.2.2.2.1<|nt h.2.2.2.2.2
theorem zt{f:List Jl->Bool}(h:hTup f x=Jc)(k:∀es n p,f es=Jc->es.length<=100->P (.Tuple es n p)):P x:=by
 obtain⟨⟨es,n,p,rfl⟩,h⟩:=dt (k:=7) (b:=qTup f x) h;exact k es n p (and2 h).1 (Y6 (and2 h).2)
theorem ua{f:List Jl->Bool}(h:hList f x=Jc)(k:∀es p,f es=Jc->es.length<=100->P (.List es p)):P x:=by
 obtain⟨⟨es,p,rfl⟩,h⟩:=dt (k:=8) (b:=qList f x) h;exact k es p (and2 h).1 (Y6 (and2 h).2)
theorem p5(h:hSub f g x=Jc)(k:∀u v p,f u=Jc->g v=Jc->P (.Subscript u v p)):P x:=by
 obtain⟨⟨u,v,p,rfl⟩,h⟩:=dt (k:=10) (b:=qSub f g x) h;exact k u v p (and2 h).1 (and2 h).2
theorem Av(h:hTo g x=Jc)(k:∀w q,g w=Jc->P (.Slice Jb (Ja w) Jb q)):P x:=by
 obtain⟨⟨l,i,s,q,rfl⟩,h⟩:=dt (k:=14) (b:=qTo g x) h
 rcases l with o0|o0<;>rcases i with _|w<;>rcases s with _|_<;>first|exact ft h|exact k w q h
theorem Ap(h:hFr g x=Jc)(k:∀w q,g w=Jc->P (.Slice (Ja w) Jb Jb q)):P x:=by
 obtain⟨⟨l,i,s,q,rfl⟩,h⟩:=dt (k:=14) (b:=qFrom g x) h
 rcases l with o0|w<;>rcases i with _|_<;>rcases s with _|_<;>first|exact ft h|exact k w q h
theorem s0{g:Jk->XB}(h:hComp sc tg f g x=Jc)(k:∀e t i s p,f i=Jc->mTg s tg t=Jc->g s e=Jc->eC sc s=Jc->ownOk tg s=Jc->P (.ListComp e [⟨t,i,[],0⟩] s p)):P x:=by
 obtain⟨⟨e,y,s,p,rfl⟩,h⟩:=dt (k:=11) (b:=qComp sc tg f g x) h
 rcases y with o0|⟨⟨t,i,o0|⟨o0,o0⟩,a⟩,o0|⟨o0,o0⟩⟩<;>first|exact ft h|skip
 have h:=and2 h;obtain rfl:=Y6 h.1;have h:=and5 h.2;exact k e t i s p h.1 h.2.1 h.2.2.1 h.2.2.2.1 h.2.2.2.2
theorem np{g c:Jk->XB}(h:qd sc tg f g c x=Jc)(k:∀e t i z s p,f i=Jc->mTg s tg t=Jc->g s e=Jc->c s z=Jc->eC sc s=Jc->ownOk tg s=Jc->P (.ListComp e [⟨t,i,[z],0⟩] s p)):P x:=by
 obtain⟨⟨e,y,s,p,rfl⟩,h⟩:=dt (k:=11) (b:=qk sc tg f g c x) h
 rcases y with o0|⟨⟨t,i,o0|⟨z,o0|⟨o0,o0⟩⟩,a⟩,o0|⟨o0,o0⟩⟩<;>first|exact ft h|skip
 have h:=and2 h;obtain rfl:=Y6 h.1;have h:=and6 h.2;exact k e t i z s p h.1 h.2.1 h.2.2.1 h.2.2.2.1 h.2.2.2.2.1 h.2.2.2.2.2
theorem tK{g:List Jl->Bool}(h:hCl f g x=Jc)(k:∀y as p,f y=Jc->g as=Jc->P (.Call y as [] p)):P x:=by
 obtain⟨⟨y,as,w,p,rfl⟩,h⟩:=dt (k:=12) (b:=qCall f g x) h
 rcases w with o0|⟨o0,o0⟩
 ·exact k y as p (and2 h).1 (and2 h).2
 ·exact ft h
theorem qR{f:List Jl->Bool}(h:hCl (glb sc n) f x=Jc)(k:∀py as p,sc.names.lookup (Qb n)=Ja .globalImplicit->bu (Qb n)=Jc->f as=Jc->P (.Call (.Name (Qb n) py) as [] p)):P x:=
 tK h λy as p N Y=>by
  obtain⟨py,rfl,J,w⟩:=jP N;exact k py as p J w Y
theorem vK{g:Pos->Bool}(h:hAt a f g x=Jc)(k:∀y p,f y=Jc->em y=Jc->g p=Jc->P (.Attribute y (Qb a) p)):P x:=by
 obtain⟨⟨y,z,p,rfl⟩,h⟩:=dt (k:=13) (b:=qAttr a f g x) h;have h:=and4 h;obtain rfl:=nmE h.2.2.1;exact k y p h.1 h.2.1 h.2.2.2
theorem wh{g:List Jl->Bool}(h:hMc m f g x=Jc)(k:∀y as p q,f y=Jc->em y=Jc->(p.endLine==q.line)=Jc->g as=Jc->P (.Call (.Attribute y (Qb m) p) as [] q)):P x:=by
 obtain⟨⟨u,as,w,q,rfl⟩,h⟩:=dt (k:=12) (b:=qMeth (λq=>hAt m f λp=>p.endLine==q.line) g x) h
 rcases w with o0|⟨o0,o0⟩
 ·have h:=and2 h;exact vK (P:=λu=>P<|.Call u as [] q) h.1 λy p N Y J=>k y as p q N Y J h.2
 ·exact ft h
theorem sI{Q:List Jl->Prop}(h:two2 f g l=Jc)(k:∀x y,f x=Jc->g y=Jc->Q [x,y]):Q l:=by
 rcases l with o0|⟨x,o0|⟨y,o0|⟨o0,o0⟩⟩⟩<;>first|exact ft h|exact k x y (and2 h).1 (and2 h).2
theorem wE(h:hEmp x=Jc)(k:∀p,P (.List [] p)):P x:=
 ua h λe p N o0=>by
  rcases e with o0|⟨o0,o0⟩
  ·exact k p
  ·exact ft N
theorem uS(h:t6 x=Jc)(k:∀p,P (.Dict [] [] p)):P x:=by
 obtain⟨⟨s,v,p,rfl⟩,h⟩:=dt (k:=15) (b:=sZ x) h
 rcases s with o0|⟨o0,o0⟩<;>rcases v with _|⟨_,_⟩<;>first|exact ft h|exact k p
theorem wx{Q:List Jl->Prop}(h:one1 f l=Jc)(k:∀x,f x=Jc->Q [x]):Q l:=by
 rcases l with o0|⟨x,o0|⟨o0,o0⟩⟩<;>first|exact ft h|exact k x h
end
section
variable{sc:Jk}{x:Jo}{P:Jo->Prop}
theorem nI(h:kAsg f g x=Jc)(k:∀t v pos,f t=Jc->g v=Jc->P (.Assign [t] v pos)):P x:=by
 obtain⟨⟨s,v,p,rfl⟩,h⟩:=jA (k:=0) (b:=rAsg f g x) h
 rcases s with o0|⟨t,o0|⟨o0,o0⟩⟩<;>first|exact ft h|exact k t v p (and2 h).1 (and2 h).2
theorem wX(h:kAsg (hOwn sc y) f x=Jc)(k:∀z v pos,mTg sc (.name y) (.Name (Qb y) z)=Jc->f v=Jc->P (.Assign [.Name (Qb y) z] v pos)):P x:=
 nI h λt v pos N J=>hW (P:=λt=>P<|.Assign [t] v pos) N λp w B=>k p v pos (by show(Vl.Internal.nm _ _&&isOwn sc _&&bu _)=Jc;rw[w,B,Bool.and_true,Bool.and_true];exact beq_self_eq_true _) J
theorem zH(h:kAsg (hTupT (dQ sc xs)) f x=Jc)(k:∀es a b v pos,mTg sc (.tup xs) (.Tuple es a b)=Jc->f v=Jc->P (.Assign [.Tuple es a b] v pos)):P x:=
 nI h λt v pos N J=>by
  obtain⟨⟨es,a,b,rfl⟩,N⟩:=dt (k:=7) (b:=qTupT (dQ sc xs) t) N;exact k es a b v pos N J
theorem xG(h:kExpr f x=Jc)(k:∀v pos,f v=Jc->P (.Expr v pos)):P x:=by
 obtain⟨⟨v,p,rfl⟩,h⟩:=jA (k:=1) (b:=rExpr f x) h;exact k v p h
theorem Ac(h:kRet f x=Jc)(k:∀v pos,f v=Jc->P (.Return (Ja v) pos)):P x:=by
 obtain⟨⟨v,p,rfl⟩,h⟩:=jA (k:=2) (b:=rRet f x) h
 rcases v with o0|v
 ·exact ft h
 ·exact k v p h
theorem Aq(h:kIf f g e x=Jc)(k:∀u y z pos,f u=Jc->g y=Jc->e z=Jc->P (.If u y z pos)):P x:=by
 obtain⟨⟨u,y,z,p,rfl⟩,h⟩:=jA (k:=3) (b:=rIf f g e x) h;have h:=and3 h;exact k u y z p h.1 h.2.1 h.2.2
theorem z8(h:kFor f g e x=Jc)(k:∀t i y pos,f t=Jc->g i=Jc->e y=Jc->P (.For t i y [] pos)):P x:=by
 obtain⟨⟨t,i,y,z,p,rfl⟩,h⟩:=jA (k:=4) (b:=rFor f g e x) h
 rcases z with o0|⟨o0,o0⟩
 ·have h:=and3 h;exact k t i y p h.1 h.2.1 h.2.2
 ·exact ft h
theorem wm(h:sB f e x=Jc)(k:∀u y pos,f u=Jc->e y=Jc->P (.While u y [] pos)):P x:=by
 obtain⟨⟨u,y,z,p,rfl⟩,h⟩:=jA (k:=5) (b:=tD f e x) h
 rcases z with o0|⟨o0,o0⟩
 ·exact k u y p (and2 h).1 (and2 h).2
 ·exact ft h
theorem uL(h:s9 f x=Jc)(k:∀v pos,f v=Jc->P (.Raise (Ja v) Jb pos)):P x:=by
 obtain⟨⟨v,c,pos,rfl⟩,h⟩:=jA (k:=6) (b:=sh f x) h
 rcases v with o0|v<;>rcases c with _|_<;>first|exact ft h|exact k v pos h
theorem x6(h:kTry f (rH1 (rHd sc c g)) x=Jc)(k:∀y t R r p pos,f y=Jc->glb sc c t=Jc->g (R::r)=Jc->P (.Try y [.ExceptHandler (Ja t) Jb (R::r) p] [] [] pos)):P x:=by
 obtain⟨⟨y,s,z,w,p,rfl⟩,h⟩:=jA (k:=7) (b:=rTry f (rH1<|rHd sc c g) x) h
 rcases z with o0|⟨o0,o0⟩<;>rcases w with _|⟨_,_⟩<;>rcases s with _|⟨⟨t,n,b,q⟩,_|⟨_,_⟩⟩<;>first|exact ft h|exact ft (and2 h).2|skip
 have h:=and2 h
 rcases t with o0|t<;>rcases b with _|⟨R,r⟩<;>first|exact ft h.2|skip
 have Y:=and3 h.2
 rcases n with o0|n
 ·exact k y t R r q p h.1 Y.1 Y.2.2
 ·exact ft Y.2.1
end
section
set_option backward.match.sparseCases true
inductive BP(C:Cx)(σ:PH)(s:Je)(K:Bool->PH->Prop)(b:Bool)(s1:Je):Prop
 |mk (σ1:PH) (m:Sim C σ1 s1.heap) (st:Step none1 σ s.heap σ1 s1.heap) (r:Rest s s1) (k:K b σ1):BP C σ s K b s1
structure At(C:Cx)(n:Nat)(sc:Jk)(env:Js)(ρ:Rho)(A:Jj)(l:List Js)(σ:PH)(s:Je):Prop where
 sr:ScR sc env
 ev:EnvR C env ρ σ s.heap
 m:Sim C σ s.heap
 ak:AOK C n A l σ s.heap
theorem At.step{s W:Je}(I:At C n sc env L A l σ s)(st:Step none1 σ s.heap σ1 W.heap)(m:Sim C σ1 W.heap):At C n sc env L A l σ1 W:=⟨I.sr,I.ev.step st,m,I.ak.step st⟩
def EvOK(C:Cx)(G:Gx)(n:Nat)(sc:Jk)(e:E)(x:Jl):Prop:=∀ {F:Js} {L:Rho} {A:Jj} {l:List Js} {σ:PH} {s:Je} {Q:Post} {X:XPost},
 At C n sc F L A l σ s->we G (aO C n) e L σ Q X->EOK C A σ s (Jw x F) Q X
def TsOK(C:Cx)(G:Gx)(n:Nat)(sc:Jk)(e:E)(x:Jl):Prop:=∀ {F:Js} {L:Rho} {A:Jj} {l:List Js} {σ:PH} {s:Je} {K:Bool->PH->Prop} {X:XPost},
 At C n sc F L A l σ s->we G (aO C n) e L σ (λv m=>cy (λb=>K b m) v) X->Jh (Mo C) A (Y3 x F<|eval x F) (BP C σ s K) (XP C none1 σ s X) s
noncomputable def Evs(C:Cx)(G:Gx)(n:Nat)(sc:Jk):List E->List Jl->Prop
 |[],P=>P=[]
 |e::U,P=>X2 λx r=>A4 (P=x::r) (kz x=Jc) (EvOK C G n sc e x)<|Evs C G n sc U r
section
variable{C:Cx}{G:Gx}{mg mb:Jq->Option Jf}{n:Nat}{A:Jj}{σ:PH}{s:Je}{X:XPost}
theorem EOK.seq{R:Jf->Je->Prop}{W:Je}(h:EOK C A σ1 W t Q' X)(st:Step none1 σ s.heap σ1 W.heap)(r:Rest s W)
  (k:∀v J p O,VR C O J.heap p v->Sim C O J.heap->Step none1 σ s.heap O J.heap->Step none1 σ1 W.heap O J.heap->Rest s J->Q' p O->R v J):Jh (Mo C) A t R (XP C none1 σ s X) W:=
 YI h (λv J M=>by obtain⟨p,O,a,b,c,d,e⟩:=M;exact k v J p O a b (st.trans c) c (r.trans d) e) λo0 o0 x=>XP.from st r x
theorem EOKs.seq{Q':List PV->PH->Prop}{R:List Jf->Je->Prop}{W:Je}(h:EOKs C A σ1 W t Q' X)(st:Step none1 σ s.heap σ1 W.heap)(r:Rest s W)
  (k:∀v J p O,VRs C O J.heap p v->Sim C O J.heap->Step none1 σ s.heap O J.heap->Step none1 σ1 W.heap O J.heap->Rest s J->Q' p O->R v J):Jh (Mo C) A t R (XP C none1 σ s X) W:=
 YI h (λv J M=>by obtain⟨p,O,a,b,c,d,e⟩:=M;exact k v J p O a b (st.trans c) c (r.trans d) e) λo0 o0 x=>XP.from st r x
theorem VP.to0{W:Je}{Er:Jf->Je->Prop}(st:Step none1 σ s.heap σ1 W.heap)(r:Rest s W)(h:Jh (Mo C) A t (VP C none1 σ1 W Q) (λo0 o0=>False) W):Jh (Mo C) A t (VP C none1 σ s Q) Er W:=
 YI h (λo0 o0 x=>VP.from st r x) λo0 o0 x=>x.elim
structure Todo(C:Cx)(G:Gx)(n:Nat):Prop where
 attr:∀ {sc x f q p},isLoc sc (Qb x)=Jc->bu (Qb x)=Jc->EvOK C G n sc (.attr x f) (.Attribute (.Name (Qb x) q) (Qb f) p)
 mcall:∀ {sc f o args y as p q},EvOK C G n sc o y->em y=Jc->(p.endLine==q.line)=Jc->Evs C G n sc args as->as.length<=20->bQ f=Jd->EvOK C G n sc (.mcall f o args) (.Call (.Attribute y (Qb<|mOf f) p) as [] q)
theorem AOK.u100(a:AOK C n A l σ h):A.units+100<cLine:=by have:=a.units;exact zl (Kg (KP _ _)<|by decide) this
theorem dh{R:Bool->Je->Prop}{Er:Jf->Je->Prop}(h:R b s):Jh (Mo C) A (Ju (.bool b)) R Er s:=wpAny_truthy_bool h
theorem vO{K:Bool->Prop}(hv:VR C σ h p v)(w:cy K p):∃b,v= .bool b/\K b:=by
 obtain⟨b,rfl,w⟩:=j7 w;exact⟨b,hv,w⟩
theorem uy{x:Jl}(hx:∀env,Y3 x env (Jw x env)=(do let v<-Jw x env;standAt x.pos;holding [v] (Ju v)))(h:EvOK C G n sc e x):TsOK C G n sc e x:=by
 intro env ρ A l σ s K X I w;refine wpAny_isTrue_value (EOK.then (h I w) λv s1 p σ1 hv m1 st1 r1 q=> ?_)<|hx env;obtain⟨b,rfl,q⟩:=vO hv q;exact dh ⟨σ1,m1,st1,r1,q⟩
theorem VP.now(I:At C n sc env L A l σ s)(hv:VR C σ s.heap p v)(q:Q p σ):VP C none1 σ s Q v s:=VP.here I.m rfl ⟨rfl,rfl⟩ hv q
section
variable{sc:Jk}{a b c:E}{u v z:Jl}{p:Pos}{k:Nat}
theorem vl:EvOK C G n sc .none (.Constant .none k p):=λI w=>JI<|VP.now I ma w
theorem vZ{b:Bool}:EvOK C G n sc (.bool b) (.Constant (.bool b) k p):=λI w=>wpAny_Constant_bool<|VP.now I fg w
theorem yK{b:Int}:EvOK C G n sc (.int b) (.Constant (.int b) k p):=λI w=>wpAny_Constant_int<|VP.here I.m rfl ⟨rfl,rfl⟩ (cX _) w
theorem xR{b:String}:EvOK C G n sc (.str b) (.Constant (.str (Qb b)) k p):=λI w=>wpAny_Constant_str (VP.here (p:= .str b) I.m rfl ⟨rfl,rfl⟩ ⟨_,rfl⟩ w)
theorem jx{env:Js}(r:ScR sc env)(h:isLoc sc y=Jc):isLoc env.scope y=Jc:=by
 have:∀k,env.kindOf y=Ja k->(k= .local\/k= .cell\/k= .free)->isLoc env.scope y=Jc:=λk M Z=>by
  have M:env.scope.names.lookup y=Ja k:=M;unfold isLoc;rw[M];rcases Z with rfl|rfl|rfl<;>rfl
 rcases lh h with q|q|q
 ·exact this _ (r.loc y q)<|.inl rfl
 ·exact this _ (r.cell y q)<|.inr (.inl rfl)
 ·rcases r.free y q with q|q
  ·exact this _ q<|.inr (.inl rfl)
  ·exact this _ q<|.inr (.inr rfl)
theorem yG{b:String}(h:isLoc sc (Qb b)=Jc)(Y:bu (Qb b)=Jc):EvOK C G n sc (.loc b) (.Name (Qb b) p):=λI w=>by
 obtain⟨v,e,w⟩:=i9 w;exact ke I.ev (jx I.sr h) Y e λK hv=>VP.now I hv w
theorem vz(g:GOK C G mg mb){b:String}(h:lV sc (Qb b)=Jc)(Y:bu (Qb b)=Jc):EvOK C G n sc (.glob b) (.Name (Qb b) p):=λI w=>by
 obtain⟨v,e,w⟩:=i9 w;obtain⟨K,T,F⟩:=g.glob b v e;exact gV g I.ev I.m (I.sr.glob _<|eq_of_beq h) Y T<|VP.now I (F _ _) w
theorem xZ(N:mOp e o=Jc)(H:EvOK C G n sc a u)(R:EvOK C G n sc b v):EvOK C G n sc (.bin e a b) (.BinOp u o v p):=λI w=>
 wpAny_BinOp (EOK.then (H I w) λW q j T h B t r w=>
  EOK.seq (R (I.step t B) w) t r λF J U O f m V i M w=>VP.to0 V M (xa N m (h.step i) f w))
theorem yj(T:EvOK C G n sc a u):EvOK C G n sc (.not_ a) (.UnaryOp .Not u p):=λI w=>
 wpAny_UnaryOp (EOK.then (T I w) λf W o m h e t r w=>by
  obtain⟨b,rfl,w⟩:=vO h w;exact VP.to0 t r (not_value (dh (VP.here e rfl ⟨rfl,rfl⟩ fg w))))
theorem uK(h:TsOK C G n sc a u):TsOK C G n sc (.not_ a) (.UnaryOp .Not u p):=λ{F L A l σ s K X} I w=>
 wpAny_isTrue_Not (YI (h (K:=λb m=>K (!b) m) I w) (λb W x=>by obtain⟨a,b,c,d,e⟩:=x;exact⟨a,b,c,d,e⟩) λo0 o0 x=>x)
theorem so{x y z:Jl}{Q Er:Jf->Je->Prop}
  (h:Jh (Mo C) A (Jw x env) (λv s₁=>Jh (Mo C) A (Ju v) (λt s₂=>if t then Jh (Mo C) A (Jw (.BoolOp .And (y::z::r) pos) env) Q Er s₂ else Q v s₂) Er s₁) Er s):
  Jh (Mo C) A (Jw (.BoolOp .And (x::y::z::r) pos) env) Q Er s:=by
 show Jh (Mo C) A (do
  let v<-Jw x env
  standAt pos
  let t<-holding [v] (Ju v)
  match BoolOp.And,t with
  | .And,Jd| .Or,Jc=>pure v
  |_,_=>boolOp pos .And (Jw y env::Jw z env::evalEach r env)) Q Er s
 refine YG<|YI h (λv s₁ h₁=>YG<|YK (YG<|YJ (YI h₁ (λt s₂ h₂=> ?_) λo0 o0 x=>x))) λo0 o0 x=>x
 induction t with
 |false=>exact YH h₂
 |true=>exact h₂
theorem uw{x y z:Jl}{Q Er:Jf->Je->Prop}
  (h:Jh (Mo C) A (Jw x env) (λv s₁=>Jh (Mo C) A (Ju v) (λt s₂=>if t then Q v s₂ else Jh (Mo C) A (Jw (.BoolOp .Or (y::z::r) pos) env) Q Er s₂) Er s₁) Er s):
  Jh (Mo C) A (Jw (.BoolOp .Or (x::y::z::r) pos) env) Q Er s:=by
 show Jh (Mo C) A (do
  let v<-Jw x env
  standAt pos
  let t<-holding [v] (Ju v)
  match BoolOp.Or,t with
  | .And,Jd| .Or,Jc=>pure v
  |_,_=>boolOp pos .Or (Jw y env::Jw z env::evalEach r env)) Q Er s
 refine YG<|YI h (λv s₁ h₁=>YG<|YK (YG<|YJ (YI h₁ (λt s₂ h₂=> ?_) λo0 o0 x=>x))) λo0 o0 x=>x
 induction t with
 |false=>exact h₂
 |true=>exact YH h₂
theorem qp(H:EvOK C G n sc a u)(R:EvOK C G n sc b v)(I:At C n sc env L A l σ s)(w:we G (aO C n) (.and_ a b) L σ Q X):
  Jh (Mo C) A (Jw u env) (λx s₁=>Jh (Mo C) A (Ju x) (λt j=>if t then Jh (Mo C) A (Jw v env) (VP C none1 σ s Q) (XP C none1 σ s X) j else VP C none1 σ s Q x j) (XP C none1 σ s X) s₁) (XP C none1 σ s X) s:=
 EOK.then (H I w) λf W o T h m P r w=>by
  obtain⟨b,rfl,w⟩:=vO h w;refine dh ?_
  induction b with
  |true=>exact EOK.after P r<|R (I.step P m) w
  |false=>exact VP.from P r<|VP.here m rfl ⟨rfl,rfl⟩ fg w
theorem sp(H:EvOK C G n sc a u)(R:EvOK C G n sc b v)(I:At C n sc env L A l σ s)(w:we G (aO C n) (.or_ a b) L σ Q X):
  Jh (Mo C) A (Jw u env) (λx s₁=>Jh (Mo C) A (Ju x) (λt j=>if t then VP C none1 σ s Q x j else Jh (Mo C) A (Jw v env) (VP C none1 σ s Q) (XP C none1 σ s X) j) (XP C none1 σ s X) s₁) (XP C none1 σ s X) s:=
 EOK.then (H I w) λf W o T h m P r w=>by
  obtain⟨b,rfl,w⟩:=vO h w;refine dh ?_
  induction b with
  |false=>exact EOK.after P r<|R (I.step P m) w
  |true=>exact VP.from P r<|VP.here m rfl ⟨rfl,rfl⟩ fg w
theorem BP.from{σ1:PH}{W:Je}{K:Bool->PH->Prop}{b:Bool}{J:Je}(st:Step none1 σ s.heap σ1 W.heap)(r:Rest s W)(x:BP C σ1 W K b J):BP C σ s K b J:=
 by obtain⟨O,a,b,c,d⟩:=x;exact⟨O,a,st.trans b,r.trans c,d⟩
theorem BP.after{W:Je}{K:Bool->PH->Prop}(st:Step none1 σ s.heap σ1 W.heap)(r:Rest s W)(h:Jh (Mo C) A t (BP C σ1 W K) (XP C none1 σ1 W X) W):
  Jh (Mo C) A t (BP C σ s K) (XP C none1 σ s X) W:=YI h (λo0 o0 x=>BP.from st r x) λo0 o0 x=>XP.from st r x
def Goes(C:Cx)(A:Jj)(t e:Sem Bool):Prop:=∀ (R:Bool->Je->Prop) (E:Jf->Je->Prop) (g:Je),Jh (Mo C) A e R E g->Jh (Mo C) A t R E g
theorem pB{K:Bool->PH->Prop}(T:TsOK C G n sc a u)(R:TsOK C G n sc b v)(I:At C n sc env L A l σ s)(w:we G (aO C n) (.and_ a b) L σ (λv σ1=>cy (λb=>K b σ1) v) X)(W:Goes C A t (Y3 v env (Jw v env))):
  Jh (Mo C) A (Y3 u env<|eval u env) (λb s₁=>if b then Jh (Mo C) A t (BP C σ s K) (XP C none1 σ s X) s₁ else BP C σ s K Jd s₁) (XP C none1 σ s X) s:=
 YI (T (K:=λh σ1=>if h then we G (aO C n) b L σ1 (λv σ1=>cy (λb=>K b σ1) v) X else K Jd σ1) I w) (λh O i=>by
  obtain⟨σ1,m,P,r,w⟩:=i
  induction h with
  |true=>exact W _ _ _<|BP.after P r (R (I.step P m) w)
  |false=>exact⟨σ1,m,P,r,w⟩) λo0 o0 x=>x
theorem t8{K:Bool->PH->Prop}(T:TsOK C G n sc a u)(R:TsOK C G n sc b v)(I:At C n sc env L A l σ s)(w:we G (aO C n) (.or_ a b) L σ (λv σ1=>cy (λb=>K b σ1) v) X)(W:Goes C A t (Y3 v env (Jw v env))):
  Jh (Mo C) A (Y3 u env<|eval u env) (λb s₁=>if b then BP C σ s K Jc s₁ else Jh (Mo C) A t (BP C σ s K) (XP C none1 σ s X) s₁) (XP C none1 σ s X) s:=
 YI (T (K:=λh σ1=>if h then K Jc σ1 else we G (aO C n) b L σ1 (λv σ1=>cy (λb=>K b σ1) v) X) I w) (λh O i=>by
  obtain⟨σ1,m,P,r,w⟩:=i
  induction h with
  |false=>exact W _ _ _<|BP.after P r (R (I.step P m) w)
  |true=>exact⟨σ1,m,P,r,w⟩) λo0 o0 x=>x
theorem yY(T:EvOK C G n sc a u/\TsOK C G n sc a u)(H:EvOK C G n sc b v/\TsOK C G n sc b v):EvOK C G n sc (.and_ a b) (.BoolOp .And [u,v] p)/\TsOK C G n sc (.and_ a b) (.BoolOp .And [u,v] p):=
 ⟨λI w=>wpAny_And2 (qp T.1 H.1 I w),λI w=>JX (J5 (pB T.2 H.2 I w λR E g h=>J5 (YI h (λb W H=>by
  induction b with
  |true=>exact wpAny_allTrue_And_nil H
  |false=>exact H) λo0 o0 x=>x)))⟩
theorem ur(T:EvOK C G n sc a u/\TsOK C G n sc a u)(H:EvOK C G n sc b (.BoolOp .And (v::z::r) p)/\TsOK C G n sc b (.BoolOp .And (v::z::r) p)):EvOK C G n sc (.and_ a b) (.BoolOp .And (u::v::z::r) p)/\TsOK C G n sc (.and_ a b) (.BoolOp .And (u::v::z::r) p):=
 ⟨λI w=>so<|qp T.1 H.1 I w,λI w=>JX<|wpAny_allTrue_And_cons (pB T.2 H.2 I w λR E g h=>h)⟩
theorem zU(T:EvOK C G n sc a u/\TsOK C G n sc a u)(H:EvOK C G n sc b v/\TsOK C G n sc b v):EvOK C G n sc (.or_ a b) (.BoolOp .Or [u,v] p)/\TsOK C G n sc (.or_ a b) (.BoolOp .Or [u,v] p):=
 ⟨λI w=>wpAny_Or2 (sp T.1 H.1 I w),λI w=>JX (J9 (t8 T.2 H.2 I w λR E g h=>J9 (YI h (λb W H=>by
  induction b with
  |true=>exact H
  |false=>exact wpAny_allTrue_Or_nil H) λo0 o0 x=>x)))⟩
theorem x8(T:EvOK C G n sc a u/\TsOK C G n sc a u)(H:EvOK C G n sc b (.BoolOp .Or (v::z::r) p)/\TsOK C G n sc b (.BoolOp .Or (v::z::r) p)):EvOK C G n sc (.or_ a b) (.BoolOp .Or (u::v::z::r) p)/\TsOK C G n sc (.or_ a b) (.BoolOp .Or (u::v::z::r) p):=
 ⟨λI w=>uw<|sp T.1 H.1 I w,λI w=>JX<|wpAny_allTrue_Or_cons (t8 T.2 H.2 I w λR E g h=>h)⟩
theorem i3{σ:PH}{h:Ji}{p:PV}{v:Jf}(hv:VR C σ h p v):(v==Value.none)=p.isNone:=by
 induction p using PV.casesOn with
 |none=>rw[show v=_ from hv];rfl
 |bool=>rw[show v=_ from hv];rfl
 |int=>obtain⟨t,rfl⟩:=hv;rfl
 |str=>obtain⟨t,rfl⟩:=hv;rfl
 |tup=>obtain⟨a,o0,o0,rfl,o0⟩:=hv;rfl
 |ref=>rw[show v=_ from hv];rfl
 |scr=>obtain⟨a,o0,o0,o0,rfl,o0⟩:=hv;rfl
theorem rc(T:EvOK C G n sc a u):EvOK C G n sc (.isNone a) (.Compare u [.Is] [.Constant .none k q] p):=λI w=>
 wpAny_Compare1 (EOK.then (T I w) λf W o m h e t r w=>JI<|is_none (by rw[i3 h];exact⟨.bool _,m,rfl,e,t,r,w⟩))
theorem o7(T:EvOK C G n sc a u):TsOK C G n sc (.isNone a) (.Compare u [.Is] [.Constant .none k q] p):=λI w=>
 YN (EOK.then (T I w) λf W o m h e t r w=>JI<|is_none (dh<|by rw[i3 h];exact⟨m,e,t,r,w⟩))
theorem nZ(T:EvOK C G n sc a u):EvOK C G n sc (.notNone a) (.Compare u [.IsNot] [.Constant .none k q] p):=λI w=>
 wpAny_Compare1 (EOK.then (T I w) λf W o m h e t r w=>JI<|isNot_none (by rw[i3 h];exact⟨.bool _,m,rfl,e,t,r,w⟩))
theorem mn(T:EvOK C G n sc a u):TsOK C G n sc (.notNone a) (.Compare u [.IsNot] [.Constant .none k q] p):=λI w=>
 YN (EOK.then (T I w) λf W o m h e t r w=>JI<|isNot_none (dh<|by rw[i3 h];exact⟨m,e,t,r,w⟩))
theorem gT{W:Je}{K:PV->Bool->PH->Prop}{R:Jf->Jf->Je->Prop}(Y:mC e o=Jc)(H:EvOK C G n sc b v)(I:At C n sc env L A l σ1 W)(P:Step none1 σ s.heap σ1 W.heap)(B:Rest s W)(Q:VR C σ1 W.heap M J)
  (w:we G (aO C n) b L σ1 (λq O=>wcmp e M q O<|K q) X)(D:∀T U r σ3 Z,VR C σ3 Z.heap U r->Sim C σ3 Z.heap->Step none1 σ s.heap σ3 Z.heap->Rest s Z->K U T σ3->R r (.bool T) Z):
  Jh (Mo C) A (Jw v env) (λy j=>Jh (Mo C) A (YS o J y) (R y) (XP C none1 σ s X) j) (XP C none1 σ s X) W:=
 EOK.seq (H I w) P B λr g U O f m V t d w=>YI (yH Y m I.ak.u100 (Q.step t) f w) (λv Z h=>by
  obtain⟨p3,σ3,i,F,E,S,T,rfl,N⟩:=h;rw[show v= .bool T from i];exact D T U r σ3 Z (f.step E) F (V.trans E) (d.trans S) N) λo0 o0 x=>x
theorem yJ(N:mC V o=Jc)(O:JG o v=Jd)(S:EvOK C G n sc a u)(H:EvOK C G n sc b v):EvOK C G n sc (.cmp V a b) (.Compare u [o] [v] p)/\TsOK C G n sc (.cmp V a b) (.Compare u [o] [v] p):=
 ⟨λ{e L A l σ s Q X} I w=>wpAny_Compare1 (EOK.then (S I w) λW B j T h m t f w=>gT (R:=λo0=>VP C none1 σ s Q) N H (I.step t m) t f h w λM U F D Z o0 J y r q=>⟨.bool M,D,rfl,J,y,r,q⟩) O,
  λ{e L A l σ s K X} I w=>YN (EOK.then (S I w) λW B j T h m t f w=>gT (R:=λo0 c Z=>Jh (Mo C) A (Ju c) (BP C σ s K) (XP C none1 σ s X) Z) N H (I.step t m) t f h w λM U F D Z o0 J y r q=>dh ⟨D,J,y,r,q⟩) O⟩
theorem kE(h:JG r M=Jd):lastMarks [o,r] [f,M]=Jd:=by
 simpa [lastMarks] using h
theorem v7(N:mC o M=Jc)(Y:mC O r=Jc)(K:JG r z=Jd)(S:EvOK C G n sc a u)(H:EvOK C G n sc b v)(Z:EvOK C G n sc c z):EvOK C G n sc (.cmp2 a o b O c) (.Compare u [M,r] [v,z] p):=λ{e V A l σ s Q X} I w=>
 PyProof.Rows.Compare_chain (EOK.then (S I w) λJ g q1 j h B P U w=>PyProof.Rows.chain_link (gT N H (I.step P B) P U h w λT q2 F D L d m t y w=>dh (by
  induction T with
  |false=>exact⟨.bool Jd,D,rfl,m,t,y,w⟩
  |true=>exact PyProof.Rows.chain_last (gT (R:=λo0=>VP C none1 σ s Q) Y Z (I.step t m) t y d w λT E v4 i s5 o0 W x f q=>⟨.bool T,i,rfl,W,x,f,q⟩)))) (kE K)
theorem sQ(N:mC o M=Jc)(Y:mC O r=Jc)(B:JG r z=Jd)(S:EvOK C G n sc a u)(H:EvOK C G n sc b v)(g:EvOK C G n sc c z):TsOK C G n sc (.cmp2 a o b O c) (.Compare u [M,r] [v,z] p):=λ{e V A l σ s K X} I w=>
 PyProof.Rows.isTrue_chain (EOK.then (S I w) λJ L q1 j h Q P U w=>PyProof.Rows.test_link (gT N H (I.step P Q) P U h w λT q2 F D Z d m t y w=>dh (by
  induction T with
  |false=>exact⟨D,m,t,y,w⟩
  |true=>exact PyProof.Rows.test_last (gT (R:=λo0 c Z=>Jh (Mo C) A (Ju c) (BP C σ s K) (XP C none1 σ s X) Z) Y g (I.step t m) t y d w λT E v4 i s5 o0 W x f q=>dh ⟨i,W,x,f,q⟩)))) (kE B)
end
end
end
theorem yf(h:kz x=Jc)(env:Js):∀v,JQ x env v=pure v:=by
 intro v
 induction x using Expr.casesOn with
 |Set es k p=>exact ft h
 |_=>rfl
section
variable{C:Cx}{G:Gx}{mg mb:Jq->Option Jf}{n:Nat}
theorem Evs.plain:∀ {es:List E} {xs:List Jl},Evs C G n sc es xs->dw xs=Jc
 |[],_=>λh=>by rw[show _=[] from h];rfl
 |_::_,_=>λh=>by
  obtain⟨x,r,rfl,N,o0,J⟩:=h;exact f6 (eI N)<|Evs.plain J
theorem Evs.length:∀ {es:List E} {xs:List Jl},Evs C G n sc es xs->xs.length=es.length
 |[],_=>λh=>by rw[show _=[] from h];rfl
 |_::_,_=>λh=>by
  obtain⟨x,r,rfl,o0,o0,J⟩:=h;exact Ub (· +1)<|Evs.length J
theorem jq:∀ {es:List E} {xs:List Jl} {σ:PH} {s:Je} {Q:List PV->PH->Prop},
  Evs C G n sc es xs->At C n sc env L A l σ s->wes G (aO C n) es L σ Q X->EOKs C A σ s (spliced<|backTo pos (JD xs env)) (λps σ1=>ps.length=es.length/\Q ps σ1) X
 |[],_,σ,s,Q=>λh I w=>by
  rw[show _=[] from h];exact Calls.spliced_nil ⟨[],σ,rfl,I.m,.refl _ _ _,⟨rfl,rfl⟩,rfl,w⟩
 |e::es,_,σ,s,Q=>λh I w=>by
  obtain⟨x,r,rfl,N,Y,H⟩:=h;rw[ch (eI N)];show Jh _ _ (spliced ((Jd,Jw x env)::JW pos (JD r env))) _ _ s;refine Calls.spliced_cons (EOK.then (Y I w) λf W M σ1 K B t d w=> ?_);refine EOKs.seq (jq H (I.step t B) w) t d λJ z ps O T m o i R w=> ?_;exact⟨M::ps,O,⟨f,J,rfl,K.step i,T⟩,m,o,R,Ub (· +1) w.1,w.2⟩
section
variable{sc:Jk}{a b:E}{es:List E}{u v:Jl}{xs:List Jl}{p:Pos}{k:Nat}
theorem xS(h:Evs C G n sc es xs)(Y:xs.length<=100):EvOK C G n sc (.tup es) (.Tuple xs k p):=λI w=>
 wpAny_Tuple_spliced (YI (jq h I w) (λJ W T=>by
  obtain⟨ps,m,hv,B,s,f,o,w⟩:=T;refine⟨?_,VP.from s f (VP.allocTup (vs:=J.toArray) (n:=0) B rfl ⟨rfl,rfl⟩ hv w)⟩;rw[hv.length,o,<-h.length];exact Qq Y (by decide)) λo0 o0 x=>x)
theorem ut(h:Evs C G n sc es xs)(Y:xs.length<=100):EvOK C G n sc (.list es) (.List xs p):=λI w=>
 wpAny_List_spliced (YI (jq h I w) (λJ W T=>by
  obtain⟨ps,m,hv,B,s,f,g,w⟩:=T;refine⟨?_,VP.from s f (VP.alloc (o:= .list ps) B rfl ⟨rfl,rfl⟩ rfl ⟨J.toArray,0,rfl,hv⟩ w)⟩;rw[hv.length,g,<-h.length];exact Qq Y (by decide)) λo0 o0 x=>x)
theorem yd(H:EvOK C G n sc a u)(R:EvOK C G n sc b v):EvOK C G n sc (.sub a b) (.Subscript u v p):=λI w=>by
 refine PyProof.Rows.Subscript_ (EOK.then (H I w) λW g S O h Q s Y w=> ?_);refine EOK.seq (R (I.step s Q) w) s Y λz D U X f m o t P j=> ?_;refine VP.to0 o P ?_
 rcases j with j|j
 ·obtain⟨r,i,N,rfl,e,J⟩:=gY j;obtain⟨k,M,d⟩:=hU J;obtain⟨q,T,B⟩:=i9 d;rw[show W= .ref r from h];exact us I.ak.u100 m e f M T B
 obtain⟨k,F,j,B⟩:=gA j;obtain⟨q,T,B⟩:=i9 B;refine xb m (h.step t) f T (λE M=> ?_) B;obtain rfl:=sj<|F.symm.trans M;exact Qq j<|by decide
end
theorem m9(k:Nat)(i:Int):clipAt k i=cut k i:=by
 unfold clipAt cut;by_cases h:0<=i
 ·rw[Y8 h,Y7<|Kz.mpr h,Int.max_eq_right (Int.le_min.mpr ⟨h,QP k⟩)];obtain⟨j,rfl⟩:=Int.eq_ofNat_of_zero_le h
  rcases Nat.le_total j k with q|q
  ·rw[Yz (Kk.mpr q)];exact(Nat.min_eq_left q).symm
  ·rw[Int.min_eq_right (Kk.mpr q)];exact(Nat.min_eq_right q).symm
 ·have h:=Yp.mp h;rw[Y7 (Yp.mpr h),Y8 h,Yz (QE (Yw (WC h) _)<|Int.le_of_eq (Wj _))]
  rcases Int.le_total 0 (i+k) with q|q
  ·rw[Int.max_eq_right q]
  ·rw[Int.max_eq_left q,Int.toNat_of_nonpos q];rfl
theorem kj{s:Je}{Er:Jf->Je->Prop}{l:List PV}{f hi:Option Int}(m:Sim C σ s.heap)(e:σ r=Ja (.list l))(pl:IsPart R f)(H:IsPart X hi)(Z:Okl l)
  (j:wnew (.list<|(l.drop<|f.elim 0 (clipAt l.length)).take (hi.elim l.length (clipAt l.length)-f.elim 0 (clipAt l.length))) σ Q):
  Jh (Mo C) A (PyProof.Rows.subscriptTail g i (.ref r)<|.ref s.heap.objs.size) (VP C none1 σ s Q) Er {s with heap:=s.heap.push {cls:= .type "slice",data:= .fields #[R,X,.none]}}:=by
 have t:Step none1 σ s.heap σ (s.heap.push {cls:= .type "slice",data:= .fields #[R,X,.none]}):= .push _ _ _ _;obtain⟨w,k,N,h⟩:=m.list e;have d:w.size=l.length:=h.length;obtain⟨z,Y⟩:=kv i (.ref r)<|.ref s.heap.objs.size;have L:(s.heap.push {cls:= .type "slice",data:= .fields #[R,X,.none]}).IsList r w:=Heap.IsList.push ⟨_,N,rfl,k,rfl⟩ _;refine PyProof.Rows.tail_any (T:="list") (Heap.IsList.typeIs (s:={s with heap:=s.heap.push {cls:= .type "slice",data:= .fields #[R,X,.none]}}) L) slot_list_getitem.lookup
  (wpAny_getItem_list_slice L (Heap.IsSliceOf.new ..) pl H .none (by simp) ?_<|by rw[d];exact Qq Z<|by decide) Y
 rw[slicePick_plain,d];refine VP.from (s₁:={s with heap:=s.heap.push {cls:= .type "slice",data:= .fields #[R,X,.none]}}) t ⟨rfl,rfl⟩<|VP.alloc (o:= .list _) (m.push _) rfl ⟨rfl,rfl⟩ rfl ⟨_,0,rfl,?_⟩ j;exact((h.drop _).take _).step t
theorem kr{s J Z:Je}(st:Step none1 σ s.heap O J.heap)(r:Rest s J)(h:Jh (Mo C) A t (VP C none1 O J Q) (λo0 o0=>False) Z):Jh (Mo C) A t (VP C none1 σ s Q) (XP C none1 σ s X) Z:=
 YI h (λo0 o0 x=>VP.from st r x) λo0 o0 x=>x.elim
section
variable{sc:Jk}{a b:E}{es:List E}{u v:Jl}{xs:List Jl}{p q:Pos}
theorem uY(H:EvOK C G n sc a u)(R:EvOK C G n sc b v):EvOK C G n sc (.upto a b) (.Subscript u (.Slice Jb (Ja v) Jb q) p):=λ{F L A l E s Q X} I w=>by
 refine PyProof.Rows.Subscript_ (EOK.then (H I w) λW D M T h B t d w=> ?_);refine wpAny_Slice ?_;rw[evalPart_none,evalPart_some];refine YH ?_;refine EOK.seq (R (I.step t B) w) t d λz J U O f m o i P w=>YH ?_;obtain⟨k,rfl,w⟩:=cf w;obtain⟨tk,rfl⟩:=f;refine kr o P ?_
 induction M using PV.casesOn with
 |ref r=>
  obtain⟨l,e,Z,j⟩:=g9 (show onO (λl=>Okl l/\wnew (.list<|l.take (cut l.length k)) O Q) (O r) from w);rw[show W= .ref r from h];refine kj m e .none (.int k tk) Z ?_;simp only[Option.elim,m9,List.drop_zero,Nat.sub_zero];exact j
 |_=>exact w.elim
theorem wk(H:EvOK C G n sc a u)(R:EvOK C G n sc b v):EvOK C G n sc (.from_ a b) (.Subscript u (.Slice (Ja v) Jb Jb q) p):=λ{F L A l E s Q X} I w=>by
 refine PyProof.Rows.Subscript_ (EOK.then (H I w) λW D M T h B t d w=> ?_);refine wpAny_Slice ?_;rw[evalPart_none,evalPart_some];refine EOK.seq (R (I.step t B) w) t d λz J U O f m o i P w=>YH<|YH ?_;obtain⟨k,rfl,w⟩:=cf w;obtain⟨tk,rfl⟩:=f;refine kr o P ?_
 induction M using PV.casesOn with
 |ref r=>
  obtain⟨l,e,Z,j⟩:=g9 (show onO (λl=>Okl l/\wnew (.list<|l.drop (cut l.length k)) O Q) (O r) from w);rw[show W= .ref r from h];refine kj m e (.int k tk) .none Z ?_;simp only[Option.elim,m9];rw[Yr (by simp)];exact j
 |_=>exact w.elim
theorem dg{py p:Pos}:Jw (.Call (.Name f py) xs [] p) env=(do callWith p (<-Jw (.Name f py) env) [] (JW p (JD xs env)) (backToKw p (J1 [] env))):=rfl
theorem i6{env:Js}{L:Rho}{σ:PH}{s:Je}{A:Jj}{l:List Js}{X:XPost}{x:String}{v:Jf}{py:Pos}{Q':List PV->PH->Prop}{R:Jf->Je->Prop}
  (h:Evs C G n sc es xs)(I:At C n sc env L A l σ s)
  (d:∀ (R:Jf->Je->Prop) (Er:Jf->Je->Prop),R v s->Jh (Mo C) A (Jw (.Name (Qb x) py) env) R Er s)(kp:Kp C v)(w:wes G (aO C n) es L σ Q' X)
  (k:∀vs W ps σ1,VRs C σ1 W.heap ps vs->Sim C σ1 W.heap->Step none1 σ s.heap σ1 W.heap->Rest s W->ps.length=es.length->Q' ps σ1->Jh (Mo C) A (call v vs) R (XP C none1 σ s X) W):
  Jh (Mo C) A (Jw (.Call (.Name (Qb x) py) xs [] p) env) R (XP C none1 σ s X) s:=by
 rw[dg];refine YG<|d _ _ (cW (first:=[]) kp h.plain ?_);refine YI (jq h I w) (λvs W T=> ?_) λo0 o0 x=>x;obtain⟨ps,σ1,hv,m,t,f,o,w⟩:=T;exact⟨m.base,k vs W ps σ1 hv m t f o w⟩
theorem vT(g:GOK C G mg mb){py:Pos}(D:bQ f=Jc)(o:sc.names.lookup (Qb f)=Ja .globalImplicit)(B:bu (Qb f)=Jc)(h:Evs C G n sc es xs):EvOK C G n sc (.call f es) (.Call (.Name (Qb f) py) xs [] p):=λI w=>by
 obtain⟨v,hv,kp⟩:=g.fn f w.1;refine i6 h I (λR E X=>gV g I.ev I.m (I.sr.glob _ o) B (g.fv f v D hv) X) kp w.2 λJ W ps O T Q s m d w=> ?_;obtain⟨K,e,o0,w⟩:=w;obtain rfl:=sj<|hv.symm.trans e;exact YI (w _ _ W J (I.ak.step s) Q T) (λo0 o0 x=>VP.from s m x) λo0 o0 x=>XP.from s m x
end
theorem GOK.noSys(g:GOK C G mg mb){h:Ji}(m:Sim C σ h):h.objs.size≠JC:=λq=>by
 obtain⟨o,es,s,e,o0⟩:=g.g;have:=QS<|m.base _ _ e;rw[q] at this;exact absurd this<|by decide
theorem zV(g:GOK C G mg mb){sc:Jk}{b:BI}{py p:Pos}(B:sc.names.lookup (Qb b.nm)=Ja .globalImplicit)(W:bu (Qb b.nm)=Jc)(h:Evs C G n sc es xs):EvOK C G n sc (.bi b es) (.Call (.Name (Qb b.nm) py) xs [] p):=λI w=>
 i6 h I (λR o X=>fQ g I.ev I.m (I.sr.glob _ B) W b.mem b.boot X) (b.kp C) w.2 λJ D ps O T m s f d H=>
  VP.to0 s f (Aa (I.ak.calm<|g.calm w.1) I.ak.u100 m T H<|g.noSys m)
theorem rP(h:T∈bty):YX (Qb T)=Ja (.type T)/\T∈bltNames:=by
 simp only[bty,QB,KC,or_false] at h
 rcases h with rfl|rfl|rfl|rfl|rfl<;>exact⟨by decide+kernel,by decide⟩
theorem mU{L:Type}{l:List L}(h:l.length=1):∃a,l=[a]:=by
 induction l using List.casesOn with
 |nil=>cases h
 |cons a r=>induction r using List.casesOn with
  |nil=>exact⟨a,rfl⟩
  |cons=>cases h
theorem kl:∀ {t:List String} {es:List Jl},jY sc t es=Jc->es.length=t.length
 |[],[]=>λo0=>rfl
 |[],_::_=>λh=>by exact ft h
 |_::_,[]=>λh=>by exact ft h
 |_::_,_::_=>λh=>Ub (· +1)<|kl (and2 h).2
inductive MTy(sc:Jk)(ts:List String)(t:Jl):Prop
 |tup (es:List Jl) (k:Nat) (p:Pos) (e:t= .Tuple es k p) (h:jY sc ts es=Jc) (h2:2<=es.length) (h3:es.length<=100):MTy sc ts t
 |one (d:String) (e:ts=[d]) (h:glb sc d t=Jc):MTy sc ts t
theorem tY{f:String->Bool}(h:oneT f t=Jc):∃d,t=[d]/\f d=Jc:=by
 induction t using List.casesOn with
 |nil=>exact bnx h
 |cons d r=>induction r using List.casesOn with
  |nil=>exact⟨d,rfl,h⟩
  |cons=>exact bnx h
theorem q0(h:mType sc ts t=Jc):MTy sc ts t:=by
 have one:∀t,oneT (λd=>glb sc d t) ts=Jc->MTy sc ts t:=λt h=>by obtain⟨d,e,h⟩:=tY h;exact .one d e h
 induction t using Expr.casesOn with
 |Tuple es k p=>
  obtain⟨h1,h2⟩:=and2 (show(jY sc ts es&&(decide (2<=es.length)&&decide (es.length<=100)))=Jc from h);exact .tup es k p rfl h1 (Y6 (and2 h2).1)<|of_decide_eq_true (and2 h2).2
 |_=>exact one _ h
theorem yq(T:Todo C G n)(g:GOK C G mg mb){sc:Jk}{py p:Pos}(M:sc.names.lookup (Qb "isinstance")=Ja .globalImplicit)(o:bu (Qb "isinstance")=Jc)(S:kz y=Jc)(J:mType sc m t=Jc)(ha:EvOK C G n sc a y):
  EvOK C G n sc (.isi a m) (.Call (.Name (Qb "isinstance") py) [y,t] [] p):=λ{F ρ A l σ s Q X} I w=>by
 have z:stat m=Jc↔(m.length=1/\∀t∈m,t∈bty):=by
  simp only[stat,QZ,beq_iff_eq,Qy,List.contains_eq_mem,Ua];rfl
 induction U:stat m with
 |false=>exact ft<|U.symm.trans (show _/\_ from w).1
 |true=>
 obtain⟨w1,w⟩:=w;obtain⟨j,V⟩:=z.mp U;obtain⟨R,rfl⟩:=mU j;have H:R∈bty:=V R<|Qk.mpr rfl;have L:glb sc R t=Jc:=by
  cases q0 J with
  |tup es k p e h Y J=>
   rw[kl h] at Y;exact absurd Y (show ¬2<=1 by decide)
  |one d e h=>cases e;exact h
 obtain⟨D,rfl,Z,i⟩:=jP L;obtain⟨N,b2⟩:=rP H;rw[dg];refine YG<|fQ g I.ev I.m (I.sr.glob _ M) o (by decide) (v:= .builtin "isinstance") (by decide+kernel) (cW (first:=[]) ⟨.machine,.inr<|.inl rfl,W.Looks.of_pure rfl⟩ (f6 (eI S) rfl) ?_);rw[ch (eI S)];show Jh _ _ (spliced [(Jd,Jw y F),(Jd,Jw (.Name (Qb R) D) F)]) _ _ s;refine Calls.spliced_cons (EOK.then (ha I w) λv1 s1 p1 O K B P f w=> ?_);refine Calls.spliced_cons<|fQ g (I.ev.step P) B (I.sr.glob _ Z) i b2 N (Calls.spliced_nil ⟨B.base,?_⟩);obtain⟨b,e,w⟩:=sH w;exact VP.to0 P f<|xD H B K e w
theorem lM{nm:Jq}(h:em x=Jc):attributeBase x nm env (Jw x env)=Jw x env:=by
 induction x using Expr.casesOn with
 |Call f as kw q=>induction as using List.casesOn with
  |nil=>exact bnx h
  |cons a as=>rcases f with⟨⟩<;>rfl
 |_=>rfl
theorem rn{xs:List Jl}{p q:Pos}(h2:em y=Jc)(h5:(p.endLine==q.line)=Jc)(h6:xs.length=1)(P:EvOK C G n sc o y)(h:Evs C G n sc es xs):EvOK C G n sc (.meth o .append es) (.Call (.Attribute y (Qb "append") p) xs [] q):=λ{F ρ A l σ s Q X} I w=>by
 obtain⟨e,rfl⟩:=mU<|h.length.symm.trans h6;obtain⟨z,r,rfl,hz,h3,rfl⟩:=h;have D:JD [z] F=[(Jd,Jw z F)]:=by rw[ch (eI hz)];rfl
 refine wpAny_Call_append (lM h2) ?_ h5 (by rw[D];rfl) ?_
 ·rw[D];rfl
 refine EOK.then (P I w) λv1 s1 p1 T K L t r1 Z=> ?_;obtain⟨a,l1,rfl,e1,o0⟩:=gP (show onL T (λo0=>True) p1 from Z.1);rw[show v1= .ref a from K];obtain⟨W,k1,g1,g2⟩:=L.list e1;refine⟨a,W,rfl,⟨_,k1,g1,rfl,rfl,rfl⟩,?_⟩;refine EOK.seq (h3 (I.step t L) Z.2) t r1 λH s2 U O f M V i r2 j=> ?_;obtain⟨Y,R,j,w3⟩:=g9 (show onO (λl=>l.length<lim/\Q .none (O.set a<|.list (l++[U]))) (O a) from j);obtain⟨m,k2,g3,d⟩:=M.list R;have J:m.size=Y.length:=d.length;refine VP.to0 V r2<|wpAny_list_append_plain ⟨k2,g3⟩ (λh' g B=> ?_) (by rw[J];exact Qq (KJ j)<|by decide);obtain⟨k3,g⟩:=g;obtain⟨N,u2⟩:=Sim.upd (S:=none1) (o':= .list (Y++[U])) M R rfl B g ⟨m.push H,k3,rfl,by rw[Array.toList_push];exact d.append ⟨H,[],rfl,f,rfl⟩⟩;exact⟨.none,_,ma,N,u2,⟨rfl,rfl⟩,w3⟩
theorem td:∀k,n4 C k
 | .val=>ry
 | .range=>oa
def ItOK(C:Cx)(G:Gx)(n:Nat)(sc:Jk)(tg:Tg):IK->List E->Jl->Prop
 | .val,es,i=>Evs C G n sc es [i]
 | .range,es,i=>X3 λpy s q=>A4 (i= .Call (.Name (Qb "range") py) s [] q) (sc.names.lookup (Qb "range")=Ja .globalImplicit) (bu (Qb "range")=Jc)<|Evs C G n sc es s
theorem ItOK.of(h:mIt sc k tg es i=Jc)(H:∀xs,mEs sc es xs=Jc->Evs C G n sc es xs):ItOK C G n sc tg k es i:=by
 induction k with
 |val=>exact H _ h
 |range=>exact qR (P:=ItOK C G n sc tg .range es) (f:=λs=>mEs sc es s&&decide (s.length=1)) h λpy s q N Y J=>⟨py,s,q,rfl,N,Y,H _ (and2 J).1⟩
theorem Evs.one(h:Evs C G n sc es [x]):∃a,A3 (es=[a]) (kz x=Jc) (EvOK C G n sc a x):=by
 rcases es with o0|⟨a,es⟩
 ·cases h
 obtain⟨x,r,e,N,Y,J⟩:=h;cases e
 rcases es with o0|⟨o0,o0⟩
 ·exact⟨a,rfl,N,Y⟩
 ·obtain⟨o0,o0,e,o0⟩:=J;cases e
theorem ItOK.fold(h:ItOK C G n sc tg k es i)(env:Js):∀v,JQ i env v=pure v:=by
 induction k with
 |val=>obtain⟨a,rfl,N,o0⟩:=Evs.one h;exact yf N env
 |range=>obtain⟨o0,o0,o0,rfl,o0⟩:=h;intro v;rfl
theorem kM(g:GOK C G mg mb){d:Rho}{K:List PV->(PH->Prop)->PH->Prop}
  (D:G.calm=Jc)(hi:ItOK C G n sc tg k es i)(ht:mTg M tg t=Jc)(I:At C n sc env d A l σ s)
  (w:wes G (aO C n) es d σ (λvs σ1=>src k vs σ1 λxs chk=>xs.length<=lim/\K xs chk σ1) X):
  iZ C A env t i σ s K (XP C none1 σ s X):=by
 intro R V;have f:∀vs O ps σ1,VRs C σ1 O.heap ps vs->Sim C σ1 O.heap->Step none1 σ s.heap σ1 O.heap->Rest s O->(src k ps σ1 λxs chk=>xs.length<=lim/\K xs chk σ1)->uc C A k vs R (XP C none1 σ s X) O:=λvs O ps σ1 hv m P B w=>
  td k A t ps vs σ1 O K R _ (I.ak.calm<|g.calm D) hv m w λxs chk I fp U L s2 S z F o r2 h hl hK=>
   V I fp U L s2 xs chk S z F (P.trans o) (B.trans r2) (λb H=>⟨P.old m (h b H).1,(h b H).2⟩) hl hK
 induction k with
 |val=>
  obtain⟨a,rfl,o0,Y⟩:=Evs.one hi;exact EOK.then (Y I w) λJ O j σ1 Q m P B w=>f [J] O [j] σ1 ⟨J,[],rfl,Q,rfl⟩ m P B w
 |range=>
  obtain⟨py,as,q,rfl,N,h6,Z⟩:=hi;exact i6 Z I (λR Er V=>fQ g I.ev I.m (I.sr.glob _ N) h6 (by decide) (v:= .type "range") (by decide+kernel) V) ⟨.machine,.inr<|.inl rfl,W.Looks.of_pure rfl⟩
   w λvs O ps σ1 T m P B hn w=>f vs O ps σ1 T m P B w
theorem XP.none{P:Prop}(x:XP C none1 σ1 s (λo0 o0=>False) e s'):P:=by obtain⟨o0,o0,o0,o0,o0,o0,q⟩:=x;exact q.elim
section
variable{sc:Jk}{e c:E}{x y:Jl}{A:Jj}{l:List Js}
theorem p7(h:EvOK C G n sc e x)(i:Js)(K:ScR sc i)(L:Rho)(σ:PH)(s:Je)(Q:Post)(W:EnvR C i L σ s.heap)(m:Sim C σ s.heap)(t:AOK C n A l σ s.heap)(w:we G (aO C n) e L σ Q λo0 o0=>False)(Er:Jf->Je->Prop):Jh (Mo C) A (Jw x i) (VP C none1 σ s Q) Er s:=
 YI (h ⟨K,W,m,t⟩ w) (λo0 o0 x=>x) λo0 o0 x=>XP.none x
theorem rJ(i:Js)(V:ScR sc i)(L:Rho)(σ:PH)(s:Je)(K:Bool->PH->Prop)(W:EnvR C i L σ s.heap)(m:Sim C σ s.heap)(h:AOK C n A l σ s.heap)(w:K Jc σ)(Er:Jf->Je->Prop):Jh (Mo C) A (tests [] i) (λok s'=>∃σ',A4 (Sim C σ' s'.heap) (Step none1 σ s.heap σ' s'.heap) (Rest s s') (K ok σ')) Er s:=
 wpAny_tests_nil ⟨σ,m,.refl _ _ _,⟨rfl,rfl⟩,w⟩
theorem rV(h:TsOK C G n sc e x)(i:Js)(W:ScR sc i)(L:Rho)(σ:PH)(s:Je)(K:Bool->PH->Prop)(X:EnvR C i L σ s.heap)(m:Sim C σ s.heap)(t:AOK C n A l σ s.heap)(w:we G (aO C n) e L σ (λv σ'=>cy (λb=>K b σ') v) λo0 o0=>False)(Er:Jf->Je->Prop):Jh (Mo C) A (tests [x] i) (λok s'=>∃σ',A4 (Sim C σ' s'.heap) (Step none1 σ s.heap σ' s'.heap) (Rest s s') (K ok σ')) Er s:=
 wpAny_tests_one (YI (h ⟨W,X,m,t⟩ w) (λb D x=>by obtain⟨T,F,j,H,O⟩:=x;exact⟨T,F,j,H,O⟩) λo0 o0 x=>XP.none x)
theorem uz(g:GOK C G mg mb)(N:ItOK C G n sc tg k es i)(Y:mTg M tg t=Jc)(T:eC sc M=Jc)(B:ownOk tg M=Jc)(O:EvOK C G n M e x):EvOK C G n sc (.comp e tg k es) (.ListComp x [⟨t,i,[],0⟩] M p):=λ{F L A l W s Q X} I w=>
 mP (tst:=λo0 W K=>K Jc W) (el:=λh W K=>we G (aO C n) e h W K λo0 o0=>False) I.ev I.ak I.sr T B Y (N.fold F) (kM g w.1 N Y I w.2) rJ (p7 O)
theorem rq(g:GOK C G mg mb)(N:ItOK C G n sc tg k es i)(Y:mTg M tg t=Jc)(o:eC sc M=Jc)(B:ownOk tg M=Jc)(O:EvOK C G n M e x)(Z:TsOK C G n M c y):EvOK C G n sc (.compIf e tg k es c) (.ListComp x [⟨t,i,[y],0⟩] M p):=λ{F L A l W s Q X} I w=>
 mP (tst:=λh W K=>we G (aO C n) c h W (λv T=>cy (λb=>K b T) v) λo0 o0=>False) (el:=λh W K=>we G (aO C n) e h W K λo0 o0=>False) I.ev I.ak I.sr o B Y (N.fold F) (kM g w.1 N Y I w.2) (rV Z) (p7 O)
end
theorem sv(g:GOK C G mg mb):EvOK C G n sc .dict0 (.Dict [] [] p):=λ{F L A l t s Q X} I w=>by
 show Jh _ _ (Jw (.Dict [] [] p) F) _ _ s;rw[arm_eval_Dict];refine YG<|YK ?_;show Jh _ _ newDict _ _ s;exact JB<|VP.alloc (o:= .dict [] []) I.m rfl ⟨rfl,rfl⟩ rfl ⟨#[],0,[],⟨rfl,rfl,rfl⟩,rfl,rfl,rfl,.nil,λy h=>(bN h),rfl⟩ w.2 (g.noSys I.m)
theorem na(h:kz y=Jc):JD [y,.List [] r] env=[(Jd,Jw y env),(Jd,Jw (.List [] r) env)]:=by
 rw[ch (eI h)];rfl
section
variable{sc:Jk}{a k:E}{y kx:Jl}{p q r:Pos}
theorem tF{m:String}{id:String}{env:Js}{L:Rho}{σ:PH}{s:Je}{A:Jj}{l:List Js}{X:XPost}{P:PV->PH->PV->PH->Prop}{R:Jf->Je->Prop}(slot:Slot "dict" (Qb m) id)(z:typeOf (.builtin id)=pure (.type "method_descriptor"))
  (kp:Kp C (.builtin id))(Q:em y=Jc)(N:(p.endLine==q.line)=Jc)(hz:kz kx=Jc)(I:At C n sc env L A l σ s)(ha:EvOK C G n sc a y)(j:EvOK C G n sc k kx)
  (w:we G (aO C n) a L σ (λY σ1=>onD σ1 (λo0 o0=>True) Y/\we G (aO C n) k L σ1 (λd O=>P Y σ1 d O) X) X)
  (f:∀r σ1 d O H J,P (.ref r) σ1 d O->VR C O J.heap d H->Sim C O J.heap->Step none1 σ s.heap O J.heap->Rest s J->
   Jh (Mo C) A (call (.builtin id) [.ref r,H,.ref J.heap.objs.size]) R (XP C none1 σ s X) {J with heap:=J.heap.push (lstO #[] 0)}):Jh (Mo C) A (Jw (.Call (.Attribute y (Qb m) p) [kx,.List [] r] [] q) env) R (XP C none1 σ s X) s:=by
 refine wpAny_Call_method_late (lM Q) (by rw[na hz];rfl) N rfl ?_;refine EOK.then (ha I w) λW g p1 σ1 h B t K Z=> ?_;obtain⟨b,ks,ll,rfl,e,o0⟩:=gY Z.1;rw[show W= .ref b from h];obtain⟨xs,D⟩:=B.dict e;refine⟨"dict",id,F.plainAttrs_dict,slot,z,D.of.typeIs,PyProof.Rows.dictOfH_noDict D.of,?_⟩;refine cW (first:=[.ref b]) kp (f6 (eI hz) rfl) ?_;rw[na hz];show Jh _ _ (spliced [(Jd,Jw kx env),(Jd,Jw (.List [] r) env)]) _ _ g;refine Calls.spliced_cons (EOK.seq (j (I.step t B) Z.2) t K λH J U O E M V i S T=> ?_);refine Calls.spliced_cons<|wpAny_List_spliced (Calls.spliced_nil ⟨QN _,Calls.spliced_nil ⟨λb o q=>Qm _<|M.base b o q,?_⟩⟩);exact f b σ1 U O H J T E M V S
theorem xq(K:em y=Jc)(E:(p.endLine==q.line)=Jc)(hz:kz kx=Jc)(Z:EvOK C G n sc a y)(j:EvOK C G n sc k kx):EvOK C G n sc (.get a k) (.Call (.Attribute y (Qb "get") p) [kx,.List [] r] [] q):=λ{Y ρ A l U s Q X} I w=>by
 refine tF (m:="get") (P:=λf T d O=>onD O (λL l=>oK (λk=>wget (klook L l k) O Q)<|keyOf d) f) F.slot_dict_get F.type_dict_get ⟨.machine,.inr<|.inl rfl,W.Looks.of_pure rfl⟩ K E hz I Z j w ?_;intro r T d O V z w hv M t R;obtain⟨b,L,ll,g,e,N⟩:=gY w;cases g;obtain⟨i,H,B⟩:=hU N;have J:=M.push<|lstO #[] 0;obtain⟨xs,D⟩:=J.dict e;obtain⟨S,rfl,h⟩:=jZ H<|hv.step (Step.push none1 O z.heap<|lstO #[] 0);refine call_meetsIn F.slot_dict_get D.of.typeIs F.entry_dict_get (F.args_dict_get_3 _ _ _) (meetsH_dict_get_default (tk C.prog C.w) r S D.sys _) ⟨gZ I.ak.u100,i,xs,h.is,D.of,?_⟩
 rcases D.look (k:=i) with⟨z1,z2⟩|⟨p,y,z1,z2,z3⟩
 ·rw[z2];rw[z1] at B;exact VP.from t R<|VP.alloc (o:= .list []) M rfl ⟨rfl,rfl⟩ rfl ⟨#[],0,rfl,rfl⟩ B
 ·rw[z2];rw[z1] at B;exact⟨p,O,z3,J,t.trans<|.push _ _ _ _,R.trans ⟨rfl,rfl⟩,B⟩
theorem za(h:em y=Jc)(h4:(p.endLine==q.line)=Jc)(hz:kz kx=Jc)(ha:EvOK C G n sc a y)(hk:EvOK C G n sc k kx):EvOK C G n sc (.sd a k) (.Call (.Attribute y (Qb "setdefault") p) [kx,.List [] r] [] q):=λ{ah ρ A l σ s Q X} I w=>by
 refine tF (m:="setdefault") (P:=λva ac vk O=>wsd va O Q vk) F.slot_dict_setdefault F.type_dict_setdefault ⟨.machine,.inr (.inl rfl),W.Looks.of_pure rfl⟩ h h4 hz I ha hk w ?_;intro r ac vk O v2 J w hv m2 V r2;obtain⟨K,T,e,E,w2⟩:=kC (show onDO (λK l=>l.length<lim/\oK (λk=>match klook K l k with
  |some v=>Q v O
  |none=>∀b,O b=Jb->Q (.ref b) ((O.set b (.list [])).set r (.dict (K++[k]) (l++[.ref b])))) (keyOf vk)) (O r) from w)
 obtain⟨t,af,B⟩:=hU w2;have m3:=m2.push<|lstO #[] 0;have ad:=hv.step<|Step.push none1 O J.heap (lstO #[] 0);obtain⟨xs,D⟩:=m3.dict e;obtain⟨kb,rfl,f⟩:=jZ af ad;have d:xs.length<=JJ:=by
  have N:=D.v.length;rw[Qd] at N;rw[N,JU];exact Qq (KJ E)<|by decide
 refine jG (gZ I.ak.u100) f.is D.sys D.of (λy z2=> ?_) (λz2 h' hd hs=> ?_) d
 ·rcases D.look (k:=t) with⟨o0,z⟩|⟨p,y',z1,U,z4⟩
  ·exact sn<|z2.symm.trans z
  ·obtain rfl:=sj<|z2.symm.trans U;rw[z1] at B;exact⟨p,O,z4,m3,V.trans<|.push _ _ _ _,r2.trans ⟨rfl,rfl⟩,B⟩
 ·have z1:klook K T t=Jb:=by
   rcases D.look (k:=t) with⟨z,o0⟩|⟨p,y',o0,U,o0⟩
   ·exact z
   ·exact ns<|z2.symm.trans U
  rw[z1] at B;have hL:O J.heap.objs.size=Jb:=m2.fresh<|Qz _;have ae:r≠J.heap.objs.size:=λq=>by rw[q,hL] at e;exact ns e
  obtain⟨p4,ak,a1,m4,aa,r4,⟨b4,a5,a6⟩⟩:=VP.alloc (S:=none1) (Q:=λv ab=>∃b,v= .ref b/\ab=O.set b (.list [])) (s:=J) (s':={J with heap:=J.heap.push (lstO #[] 0)}) (o:= .list []) m2 rfl ⟨rfl,rfl⟩ rfl ⟨#[],0,rfl,rfl⟩ λb hb=>⟨b,rfl,rfl⟩
  ·subst a5 a6;cases (show Value.ref J.heap.objs.size= .ref b4 from a1);have e4:(O.set J.heap.objs.size<|.list []) r=Ja (.dict K T):=by rw[PH.set_ne _ _ ae];exact e
   obtain⟨L,H⟩:=m4.dict e4;have Y:L=xs:=by
    obtain⟨o1,am,al,g1,o0,d1,x1,o0⟩:=D.of;obtain⟨o2,ai,aj,g2,o0,d2,x2,o0⟩:=H.of;obtain rfl:=sj<|g1.symm.trans g2;rw[d1] at d2;cases d2;rw[x1] at x2;have M:=H.ks.trans D.ks.symm;refine WM λi=> ?_;have N:(L.map (·.1))[i]? =(xs.map (·.1))[i]? :=by rw[M]
    have h:(xs.map<|entryOfKey (tk C.prog C.w))[i]? =(L.map<|entryOfKey (tk C.prog C.w))[i]? :=by rw[x2]
    rw[Qu,Qu] at N h
    induction c1:L[i]? with
    |none=>rw[c1] at h;induction Z:xs[i]? with
     |none=>rfl
     |some y=>rw[Z] at h;exact sn h
    |some z=>induction Z:xs[i]? with
     |none=>rw[c1,Z] at N;exact sn N
     |some y=>
      rw[c1,Z] at N h;obtain⟨z1,z2,U⟩:=z;obtain⟨y1,y2,y3⟩:=y;have N:z1=y1:=Option.some.inj N;have h:=Option.some.inj h;simp only[JL,DictEntry.mk.injEq,Value.ref.injEq] at h;rw[N,h.2.1,h.2.2]
   subst Y;have R:KeyAt C (O.set J.heap.objs.size<|.list []) (J.heap.push<|lstO #[] 0) t kb:=by
    obtain⟨n',vs,mm,g,i⟩:=f;refine⟨?_,vs,mm,g,i⟩;rw[PH.set_ne]
    ·exact n'
    ·intro q;rw[q,QL _ rfl] at g;exact absurd (Ub (Wx Obj.cls) g)<|by simp
   obtain⟨u1,u2⟩:=H.set (p:= .ref J.heap.objs.size) (v:= .ref J.heap.objs.size) m4 e4 R rfl (by rw[storedH_new z2];exact hd) hs;have ek:kset K T t (.ref J.heap.objs.size)= .dict (K++[t]) (T++[.ref J.heap.objs.size]):=by
    unfold kset;have:kidx K t=Jb:=by
     induction q:kidx K t with
     |none=>rfl
     |some j=>
      have:=H.some_ (k:=t);rw[q,z2] at this;exact tf this
    rw[this]
   rw[ek] at u1 u2;exact⟨.ref J.heap.objs.size,_,rfl,u1,(V.trans aa).trans u2,(r2.trans r4).trans ⟨rfl,rfl⟩,B _ hL⟩
end
theorem VRs.bs:∀ {l:List PV} {bs:List Bool} {vs:List Jf},eU l=Ja bs->VRs C σ h l vs->vs=bs.map .bool
 |[],bs,vs=>λe r=>by rw[show vs=[] from r,<-sj e];rfl
 |p::l,bs,vs=>λe r=>by
  obtain⟨v,vs,rfl,f,M⟩:=r
  induction p using PV.casesOn with
  |bool b=>
   obtain⟨s,T,rfl⟩:=Qs.mp (show(eU l).map (b:: ·)=Ja bs from e);rw[show v= .bool b from f,VRs.bs T M];rfl
  |_=>exact ns e
theorem Ab(g:GOK C G mg mb){sc:Jk}{py z q p:Pos}(T:sc.names.lookup (Qb "list")=Ja .globalImplicit)(d:bu (Qb "list")=Jc)(S:sc.names.lookup (Qb "range")=Ja .globalImplicit)(J:bu (Qb "range")=Jc)(hz:kz u=Jc)(H:EvOK C G n sc a u):
  EvOK C G n sc (.lr a) (.Call (.Name (Qb "list") py) [.Call (.Name (Qb "range") z) [u] [] q] [] p):=λ{F L A l Y s Q X} I w=>by
 obtain⟨V,w⟩:=(show G.calm=Jc/\we G (aO C n) a L Y (λM m=>onInt (wlr m Q) M) X from w)
 have o:=I.ak.calm<|g.calm V;rw[dg];refine YG<|fQ g I.ev I.m (I.sr.glob _ T) d (by decide) (show YX (Qb "list")=Ja (.type "list") by decide+kernel) (cW (first:=[]) ⟨.machine,.inr<|.inl rfl,W.Looks.of_pure rfl⟩ rfl<|Calls.spliced_cons ?_);rw[dg];refine YG<|fQ g I.ev I.m (I.sr.glob _ S) J (by decide) (show YX (Qb "range")=Ja (.type "range") by decide+kernel) (cW (first:=[]) ⟨.machine,.inr<|.inl rfl,W.Looks.of_pure rfl⟩ (f6 (eI hz) rfl) ?_);rw[ch (eI hz)];refine Calls.spliced_cons ?_;refine EOK.then (H I w) λN D Z m K B P U f=>Calls.spliced_nil ⟨B.base,?_⟩;obtain⟨k,rfl,j,o0,O⟩:=cf f;obtain⟨t,rfl⟩:=K;refine YI (zG (Er:=λo0 o0=>False) o B j O) (λu R h=>Calls.spliced_nil ⟨h.1,YI h.2 (λo0 o0 x=>VP.from P U x) λo0 o0 x=>x.elim⟩) λo0 o0 x=>x.elim
def Both(C:Cx)(G:Gx)(n:Nat)(sc:Jk)(e:E)(x:Jl):Prop:=EvOK C G n sc e x/\TsOK C G n sc e x
theorem pl{x:Jl}(h:EvOK C G n sc e x)(hx:∀env,Y3 x env (Jw x env)=(do let v<-Jw x env;standAt x.pos;holding [v] (Ju v))):Both C G n sc e x:=⟨h,uy hx h⟩
def WB(C:Cx)(G:Gx)(n:Nat)(e:E):Prop:=∀ (sc:Jk) (x:Jl),mE sc e x=Jc->Both C G n sc e x
def WBs(C:Cx)(G:Gx)(n:Nat)(es:List E):Prop:=∀ (sc:Jk) (xs:List Jl),mEs sc es xs=Jc->Evs C G n sc es xs
mutual
theorem bG(T:Todo C G n)(g:GOK C G mg mb):∀e:E,WB C G n e
 | .none=>λo0 o0 h=>gX h λo0 o0=>pl vl λo0=>rfl
 | .bool _=>λo0 o0 h=>gX h λo0 o0=>pl vZ λo0=>rfl
 | .int _=>λo0 o0 h=>gX h λo0 o0=>pl yK λo0=>rfl
 | .str _=>λo0 o0 h=>gX h λo0 o0=>pl xR λo0=>rfl
 | .loc _=>λo0 o0 h=>hW h λo0 h1 h2=>pl (yG h1 h2) λo0=>rfl
 | .glob _=>λo0 o0 h=>hW h λo0 h1 h2=>pl (vz g h1 h2) λo0=>rfl
 | .bin _ a b=>λo0 o0 h=>zh h λo0 o0 o0 o0 h1 h2 h3=>pl (xZ h1 (bG T g a _ _ h2).1 (bG T g b _ _ h3).1) λo0=>rfl
 | .not_ a=>λo0 o0 h=>Ay h λo0 o0 h=>⟨yj (bG T g a _ _ h).1,uK (bG T g a _ _ h).2⟩
 | .and_ a b=>λo0 o0 h=>sV h (λo0 o0 o0 h1 h2=>yY (bG T g a _ _ h1) (bG T g b _ _ h2)) λo0 o0 o0 o0 o0 h1 h2=>ur (bG T g a _ _ h1)<|bG T g b _ _ h2
 | .or_ a b=>λo0 o0 h=>sV h (λo0 o0 o0 h1 h2=>zU (bG T g a _ _ h1) (bG T g b _ _ h2)) λo0 o0 o0 o0 o0 h1 h2=>x8 (bG T g a _ _ h1)<|bG T g b _ _ h2
 | .isNone a=>λo0 o0 h=>zN h λl c p h1 h2=>gX (P:=λc=>Both C G n _ _ (.Compare l [_] [c] p)) h2 λo0 o0=>⟨rc (bG T g a _ _ h1).1,o7 (bG T g a _ _ h1).1⟩
 | .notNone a=>λo0 o0 h=>zN h λl c p h1 h2=>gX (P:=λc=>Both C G n _ _ (.Compare l [_] [c] p)) h2 λo0 o0=>⟨nZ (bG T g a _ _ h1).1,mn (bG T g a _ _ h1).1⟩
 | .cmp _ a b=>λo0 o0 h=>y6 h λo0 o0 o0 o0 h1 h2 h3 h4=>yJ h1 h4 (bG T g a _ _ h2).1 (bG T g b _ _ h3).1
 | .cmp2 a _ b _ c=>λo0 o0 h=>yC h λo0 o0 o0 o0 o0 o0 h1 h2 h3 h4 h5 h6=>⟨v7 h1 h2 h6 (bG T g a _ _ h3).1 (bG T g b _ _ h4).1 (bG T g c _ _ h5).1,sQ h1 h2 h6 (bG T g a _ _ h3).1 (bG T g b _ _ h4).1 (bG T g c _ _ h5).1⟩
 | .tup es=>λo0 o0 h=>zt h λo0 o0 o0 h1 h2=>pl (xS (c5 T g es _ _ h1) h2) λo0=>rfl
 | .list es=>λo0 o0 h=>ua h λo0 o0 h1 h2=>pl (ut (c5 T g es _ _ h1) h2) λo0=>rfl
 | .sub a b=>λo0 o0 h=>p5 h λo0 o0 o0 h1 h2=>pl (yd (bG T g a _ _ h1).1 (bG T g b _ _ h2).1) λo0=>rfl
 | .upto a b=>λo0 o0 h=>p5 h λu o0 p h1 h2=>Av (P:=λv=>Both C G n _ _ (.Subscript u v p)) h2 λo0 o0 h2=>pl (uY (bG T g a _ _ h1).1 (bG T g b _ _ h2).1) λo0=>rfl
 | .from_ a b=>λo0 o0 h=>p5 h λu o0 p h1 h2=>Ap (P:=λv=>Both C G n _ _ (.Subscript u v p)) h2 λo0 o0 h2=>pl (wk (bG T g a _ _ h1).1 (bG T g b _ _ h2).1) λo0=>rfl
 | .comp elt _ _ it=>λo0 o0 h=>s0 h λo0 o0 o0 o0 o0 h1 h2 h3 h4 h5=>pl (uz g (.of h1 (c5 T g it _)) h2 h4 h5 (bG T g elt _ _ h3).1) λo0=>rfl
 | .compIf elt _ _ it c=>λo0 o0 h=>np h λo0 o0 o0 o0 o0 o0 h1 h2 h3 h6 h4 h5=>pl (rq g (.of h1 (c5 T g it _)) h2 h4 h5 (bG T g elt _ _ h3).1 (bG T g c _ _ h6).2) λo0=>rfl
 | .call f args=>λsc o0 h=>tK (f:=λx=>glb sc f x&&bQ f) h λy as p h1 h2=>by
  obtain⟨py,rfl,h3,h4⟩:=jP (and2 h1).1;exact pl (vT g (and2 h1).2 h3 h4 (c5 T g args _ _ (and2 h2).1)) λo0=>rfl
 | .bi _ args=>λo0 o0 h=>qR h λo0 o0 o0 h1 h2 h3=>pl (zV g h1 h2 (c5 T g args _ _ (and2 h3).1)) λo0=>rfl
 | .isi a ts=>λsc o0 h=>qR h λpy as p h1 h2 h3=>sI (Q:=λas=>Both C G n sc (.isi a ts) (.Call (.Name (Qb "isinstance") py) as [] p)) h3 λo0 o0 h3 h4=>pl (yq T g h1 h2 (and2 h3).1 h4 (bG T g a _ _ (and2 h3).2).1) λo0=>rfl
 | .meth o .append args=>λo0 o0 h=>wh h λo0 o0 o0 o0 h1 h2 h3 h4=>pl (rn h2 h3 (Y6 (and2 h4).2) (bG T g o _ _ h1).1 (c5 T g args _ _ (and2 h4).1)) λo0=>rfl
 | .dict0=>λo0 o0 h=>uS h λo0=>pl (sv g) λo0=>rfl
 | .get a k=>λo0 o0 h=>wh h λy o0 p q h1 h2 h3 h4=>sI (Q:=λas=>Both C G n _ _ (.Call (.Attribute y _ p) as [] q)) h4 λkx o0 h4 h5=>wE (P:=λz=>Both C G n _ _ (.Call (.Attribute y _ p) [kx,z] [] q)) h5 λo0=>pl (xq h2 h3 (and2 h4).1 (bG T g a _ _ h1).1 (bG T g k _ _ (and2 h4).2).1) λo0=>rfl
 | .sd a k=>λo0 o0 h=>wh h λy o0 p q h1 h2 h3 h4=>sI (Q:=λas=>Both C G n _ _ (.Call (.Attribute y _ p) as [] q)) h4 λkx o0 h4 h5=>wE (P:=λz=>Both C G n _ _ (.Call (.Attribute y _ p) [kx,z] [] q)) h5 λo0=>pl (za h2 h3 (and2 h4).1 (bG T g a _ _ h1).1 (bG T g k _ _ (and2 h4).2).1) λo0=>rfl
 | .attr _ _=>λo0 o0 h=>vK h λo0 p h1 o0 o0=>hW (P:=λy=>Both C G n _ _ (.Attribute y _ p)) h1 λo0 h1 h2=>pl (T.attr h1 h2) λo0=>rfl
 | .mcall _ o args=>λo0 o0 h=>wh h λo0 o0 o0 o0 h1 h2 h3 h4=>pl (T.mcall (bG T g o _ _ h1).1 h2 h3 (c5 T g args _ _ (and2 h4).1) (Y6 (and2 (and2 h4).2).1) (nt (and2 (and2 h4).2).2)) λo0=>rfl
 | .lr a=>λo0 o0 h=>qR h λpy as p h1 h2 h3=>wx (Q:=λas=>Both C G n _ _ (.Call (.Name _ py) as [] p)) h3 λo0 h4=>qR (P:=λz=>Both C G n _ _ (.Call (.Name _ py) [z] [] p)) h4 λpz as q h5 h6 h7=>wx (Q:=λas=>Both C G n _ _ (.Call (.Name _ py) [.Call (.Name _ pz) as [] q] [] p)) h7 λu h8=>pl (Ab g h1 h2 h5 h6 (and2 h8).1 (bG T g a _ _ (and2 h8).2).1) λo0=>rfl
theorem c5(T:Todo C G n)(g:GOK C G mg mb):∀es:List E,WBs C G n es
 |[]=>λo0 xs h=>by
  rcases xs with o0|⟨o0,o0⟩
  ·rfl
  ·exact ft h
 |a::r=>λo0 xs h=>by
  rcases xs with o0|⟨x,xs⟩
  ·exact ft h
  ·have h:=and2 h;exact⟨x,xs,rfl,(and2 h.1).1,(bG T g a _ _ (and2 h.1).2).1,c5 T g r _ _ h.2⟩
end
end
noncomputable def ownE(env:Js):Jg->Prop:=λb=>b=env.locals\/∃x,env.cells.lookup x=Ja b
def FR(C:Cx)(σ:PH)(h:Ji):Fl->Flow->Prop
 | .next,f=>f= .next
 | .ret p,f=>∃v,f= .ret v/\VR C σ h p v
inductive SP(C:Cx)(n:Nat)(A:Jj)(l:List Js)(env:Js)(σ:PH)(s:Je)(Q:SPost)(f:Flow)(s':Je):Prop
 |mk (fl:Fl) (ρ':Rho) (σ':PH) (a:FR C σ' s'.heap fl f) (b:EnvR C env ρ' σ' s'.heap) (c:Sim C σ' s'.heap) (d:Step (ownE env) σ s.heap σ' s'.heap) (e:Rest s s') (k:AOK C n A l σ' s'.heap) (q:Q fl ρ' σ'):SP C n A l env σ s Q f s'
inductive SX(C:Cx)(n:Nat)(A:Jj)(l:List Js)(env:Js)(σ:PH)(s:Je)(X:fF)(e:Jf)(s':Je):Prop
 |mk (x:PX) (ρ':Rho) (σ':PH) (a:Fly C env.frame x e σ' s.heap s'.heap) (b:EnvR C env ρ' σ' s'.heap) (c:Sim C σ' s'.heap) (d:Step (ownE env) σ s.heap σ' s'.heap) (r:Rest s s') (k:AOK C n A l σ' s'.heap) (q:X x ρ' σ'):SX C n A l env σ s X e s'
def TopF(env:Js)(l:List Js):Prop:=∃K,l=env::K/\env.frame=Ja env.locals
structure AtS(C:Cx)(n:Nat)(sc:Jk)(env:Js)(ρ:Rho)(A:Jj)(l:List Js)(σ:PH)(s:Je):Prop extends At C n sc env ρ A l σ s where
 tf:TopF env l
def StK(C:Cx)(G:Gx)(n:Nat)(sc:Jk)(st:S)(x:Jo):Prop:=∀ {env:Js} {L:Rho} {A:Jj} {l:List Js} {σ:PH} {s:Je} {Q:SPost} {X:fF},
 AtS C n sc env L A l σ s->ws G (aO C n) (aO C.un n) st L σ Q X->Jh (Mo C) A (exec x env) (SP C n A l env σ s Q) (SX C n A l env σ s X) s
def StsK(C:Cx)(G:Gx)(n:Nat)(sc:Jk)(t:List S)(xs:List Jo):Prop:=∀ {env:Js} {L:Rho} {A:Jj} {l:List Js} {σ:PH} {s:Je} {Q:SPost} {X:fF},
 AtS C n sc env L A l σ s->wss G (aO C n) (aO C.un n) t L σ Q X->Jh (Mo C) A (execs xs env) (SP C n A l env σ s Q) (SX C n A l env σ s X) s
structure Todo2(C:Cx)(G:Gx)(n:Nat):Prop where
 while_:∀ {sc t b u y p},TsOK C G n sc t u->StsK C G n sc b y->StK C G n sc (.while_ t b) (.While u y [] p)
 raise:C.ok->C.calm->∀ {sc c args py as p q},sc.names.lookup (Qb c)=Ja .globalImplicit->bu (Qb c)=Jc->as.length<=20->Evs C G n sc args as->StK C G n sc (.raise c args) (.Raise (Ja<|.Call (.Name (Qb c) py) as [] p) Jb q)
 try1:C.ok->C.calm->∀ {sc b c h y t hb hr p q},glb sc c t=Jc->StsK C G n sc b y->StsK C.un G.un n sc h (hb::hr)->StK C G n sc (.try1 b c h) (.Try y [.ExceptHandler (Ja t) Jb (hb::hr) p] [] [] q)
section
variable{C:Cx}{G:Gx}{mg mb:Jq->Option Jf}{n:Nat}{A:Jj}{env:Js}{l:List Js}{σ:PH}{s:Je}
theorem Step.own{h S:Ji}(st:Step none1 σ h σ' S):Step (ownE env) σ h σ' S:=st.mono λo0 o0 f=>f.elim
theorem XP.stmt(W:EnvR C env L σ s.heap)(k:AOK C n A l σ s.heap)(x:XP C none1 σ s (λx σ1=>X x L σ1) e s'):SX C n A l env σ s X e s':=
 by obtain⟨x,T,a,b,c,d,q⟩:=x;exact⟨x,L,T,a.weak,W.step c,b,c.own,d,k.step c,q⟩
theorem SX.none{P:Prop}(x:SX C n A l env σ1 W (λo0 o0 o0=>False) e s'):P:=by obtain⟨o0,o0,o0,o0,o0,o0,o0,o0,o0,q⟩:=x;exact q.elim
theorem SP.from{W:Je}(st:Step (ownE env) σ s.heap σ1 W.heap)(r:Rest s W)(x:SP C n A l env σ1 W Q f s'):SP C n A l env σ s Q f s':=
 by obtain⟨fl,L,X,a,b,c,d,e,q,w⟩:=x;exact⟨fl,L,X,a,b,c,st.trans d,r.trans e,q,w⟩
theorem SX.from{W:Je}(st:Step (ownE env) σ s.heap σ1 W.heap)(r:Rest s W)(x:SX C n A l env σ1 W X f s'):SX C n A l env σ s X f s':=
 by obtain⟨fl,L,T,a,b,c,d,e,q,w⟩:=x;exact⟨fl,L,T,a.from st,b,c,st.trans d,r.trans e,q,w⟩
theorem ix(h:slot env xs c):ownE env c:=by
 obtain⟨x,o0,q|q⟩:=h
 ·exact .inl q.2
 ·exact .inr ⟨_,q.2⟩
theorem lS{h:Ji}(W:EnvR C env L σ h)(q:ownE env c):∃o,h.get? c=Ja o/\¬isSeq o:=by
 rcases q with rfl|⟨x,q⟩
 ·obtain⟨o0,⟨o,U,H,e,d,o0⟩,o0⟩:=W.ns;exact⟨o,e,dA d⟩
 ·obtain⟨o0,v,o,e,d⟩:=W.newC x c q;exact⟨o,e,fm d⟩
theorem Asg.step{S:Rho}(a:Asg C env (slot env xs) σ h W)(P:EnvR C env S B h₀)(st:Step (ownE env) B h₀ σ h):Step (ownE env) B h₀ σ W:=
 st.mvS a.mv λc f=> .inr ⟨ix f,λo e=>by obtain⟨i,g,q⟩:=lS P<|ix f;obtain rfl:=sj<|e.symm.trans g;exact q,by obtain⟨o,e,_⟩:=(a.has c f).2;exact⟨o,e⟩⟩
theorem AOK.asg{F:Jg->Prop}{h S:Ji}(k:AOK C n A l σ h)(a:Asg C env F σ h S):AOK C n A l σ S:=⟨k.depth,k.units,k.stack,a.frs l k.frs,k.calm⟩
theorem n0{tg:Tg}(r:ScR sc env)(h:mTg sc tg t=Jc):∀x∈tg.names,env.kindOf (Qb x)=Ja .local\/env.kindOf (Qb x)=Ja .cell:=
 λx hx=>(pD h x hx).imp (r.loc _) (r.cell _)
theorem mI{tg:Tg}{W:Je}{Er:Jf->Je->Prop}(U:tg.isT=Jc->A.handled=Jb)(k:ScR sc env)(h:mTg sc tg t=Jc)(X:EnvR C env L σ s.heap)(q:AOK C n A l σ s.heap)
  (st:Step none1 σ s.heap σ1 W.heap)(r:Rest s W)(m:Sim C σ1 W.heap)(hv:VR C σ1 W.heap p v)(b:bindT tg p L=Ja ρ')(w:Q .next ρ' σ1):
  Jh (Mo C) A (assign t env v) (λo0 J=>SP C n A l env σ s Q .next J) Er W:=
 g8 U h (X.step st) m (n0 k h) hv b λJ a x M=>⟨.next,ρ',σ1,rfl,x,a.sim,a.step X st.own,r.trans M,(q.step st).asg a,w⟩
theorem ov{py:Pos}(h:kz x=Jc):JR x (Ja (.Name y py)) ln env=pure Jd\/(JR x (Ja (.Name y py)) ln env=pure Jc/\xk x=11):=by
 induction x using Expr.casesOn with
 |ListComp a b c d=>
  have:∃bb,JR (.ListComp a b c d) (Ja<|.Name y py) ln env=pure bb:=⟨_,rfl⟩
  obtain⟨bb,hb⟩:=this
  induction bb with
  |true=>exact .inr ⟨hb,rfl⟩
  |false=>exact .inl hb
 |SetComp=>exact ft h
 |DictComp=>exact ft h
 |_=>exact .inl rfl
theorem gu(h:kz x=Jc)(ht:(xk t==1)=Jd):JR x (Ja t) ln env=pure Jd:=by
 induction x using Expr.casesOn with
 |ListComp a b c d=>rcases t with⟨⟩<;>first|rfl|exact tf ht
 |SetComp=>exact ft h
 |DictComp=>exact ft h
 |_=>rfl
theorem oW(h:xk x=12):JR x Jb ln env=pure Jd:=by
 obtain⟨f,a,k,p,rfl⟩:=h▸xinv x;rfl
section
variable{sc:Jk}{e:E}{v:Jl}{p:Pos}
theorem uC(hx:xk v=12)(c:EvOK C G n sc e v):StK C G n sc (.expr e) (.Expr v p):=λ{env L A l σ s Q X} I w=>by
 refine wpAny_Expr_any (YI (c I.toAt w) (λv W hv=> ?_) λo0 o0 x=>XP.stmt I.ev I.ak x) ?_<|oW hx
 ·obtain⟨p,m,N,Y,h,O,B⟩:=hv;exact⟨.next,L,m,rfl,I.ev.step h,Y,h.own,O,I.ak.step h,B⟩
 ·simp[interactive,I.ev.fn]
theorem xN(c:EvOK C G n sc e v):StK C G n sc (.ret e) (.Return (Ja v) p):=λ{env L A l σ s Q X} I w=>by
 refine wpAny_Return_some (YI (c I.toAt w) (λv W hv=> ?_) λo0 o0 x=>XP.stmt I.ev I.ak x);obtain⟨p,m,N,Y,h,O,B⟩:=hv;exact⟨.ret p,L,m,⟨v,rfl,N⟩,I.ev.step h,Y,h.own,O,I.ak.step h,B⟩
theorem AtS.step{W:Je}(I:AtS C n sc env L A l σ s)(st:Step none1 σ s.heap σ1 W.heap)(m:Sim C σ1 W.heap):AtS C n sc env L A l σ1 W:=⟨I.toAt.step st m,I.tf⟩
theorem StsK.after{W:Je}(h:StsK C G n sc t xs)(I:AtS C n sc env j A l σ1 W)(w:wss G (aO C n) (aO C.un n) t j σ1 Q X)(st:Step (ownE env) σ s.heap σ1 W.heap)(r:Rest s W):
  Jh (Mo C) A (execs xs env) (SP C n A l env σ s Q) (SX C n A l env σ s X) W:=YI (h I w) (λo0 o0 x=>SP.from st r x) λo0 o0 x=>SX.from st r x
theorem Ae{y z:List Jo}(W:TsOK C G n sc e v)(R:StsK C G n sc b y)(d:StsK C G n sc o z):StK C G n sc (.if_ e b o) (.If v y z p):=λ{env T A l σ s Q X} I w=>by
 refine wpAny_If (YI (W (K:=λh m=>if h then wss G (aO C n) (aO C.un n) b T m Q X else wss G (aO C n) (aO C.un n) o T m Q X) I.toAt w) (λh O L=> ?_) λo0 o0 x=>XP.stmt I.ev I.ak x);obtain⟨m,c,t,r,w⟩:=L
 induction h with
 |true=>exact R.after (I.step t c) w t.own r
 |false=>exact d.after (I.step t c) w t.own r
theorem vq:StsK C G n sc [] []:=λI w=>JK ⟨.next,_,_,rfl,I.ev,I.m,.refl _ _ _,⟨rfl,rfl⟩,I.ak,w⟩
theorem su(H:StK C G n sc a x)(z:StsK C G n sc r xs):StsK C G n sc (a::r) (x::xs):=λ{env L A l σ s Q X} I w=>by
 refine J3 (YI (H I w) (λf O W=> ?_) λo0 o0 x=>x);obtain⟨fl,j,T,h,m,c,t,B,k,w⟩:=W
 induction fl with
 |next=>
  cases (show f= .next from h);exact z.after ⟨⟨I.sr,m,c,k⟩,I.tf⟩ w t B
 |ret p=>
  obtain⟨v,rfl,hv⟩:=h;exact⟨.ret p,j,T,⟨v,rfl,hv⟩,m,c,t,B,k,w⟩
end
end
section
end
section
variable{C:Cx}{σ:PH}{h:Ji}
mutual
theorem hJ:∀ (p:PV) (v:Jf),VR C.un σ h p v=VR C σ h p v
 | .none=>λv=>rfl
 | .bool _=>λv=>rfl
 | .int _=>λv=>rfl
 | .str _=>λv=>rfl
 | .ref _=>λv=>rfl
 | .scr l=>λv=>rfl
 | .tup l=>λv=>propext ⟨λz=>by obtain⟨a,n,vs,T,w,e,u⟩:=z;exact⟨a,n,vs,T,w,e,(gJ l _).mp u⟩,λz=>by obtain⟨a,n,vs,T,w,e,u⟩:=z;exact⟨a,n,vs,T,w,e,(gJ l _).mpr u⟩⟩
theorem gJ:∀ (l:List PV) (vs:List Jf),VRs C.un σ h l vs=VRs C σ h l vs
 |[]=>λvs=>rfl
 |p::ps=>λvs=>propext ⟨λz=>by obtain⟨v,r,T,w,e⟩:=z;exact⟨v,r,T,(hJ p _).mp w,(gJ ps _).mp e⟩,λz=>by obtain⟨v,r,T,w,e⟩:=z;exact⟨v,r,T,(hJ p _).mpr w,(gJ ps _).mpr e⟩⟩
end
theorem wt(p:PO)(o:Jp):OR C.un σ h p o=OR C σ h p o:=by
 induction p with
 |dict L l=>exact propext ⟨λM=>by obtain⟨s,H,P,x,d,e,k,nd,E,v⟩:=M;exact⟨s,H,P,x,d,e,k,nd,λy W=>by obtain⟨a,b,c,d,e⟩:=E y W;exact⟨a,b,c,d,e⟩,(gJ _ _).mp v⟩,
   λM=>by obtain⟨s,H,P,x,d,e,k,nd,E,v⟩:=M;exact⟨s,H,P,x,d,e,k,nd,λy W=>by obtain⟨a,b,c,d,e⟩:=E y W;exact⟨a,b,c,d,e⟩,(gJ _ _).mpr v⟩⟩
 |fd c V=>exact propext ⟨λM=>by obtain⟨s,H,e,k,v,z⟩:=M;exact⟨s,H,e,k,λi f p N Y=>(v i f p N Y).imp λo0 q=>⟨q.1,(hJ _ _).mp q.2⟩,z⟩,λM=>by obtain⟨s,H,e,k,v,z⟩:=M;exact⟨s,H,e,k,λi f p N Y=>(v i f p N Y).imp λo0 q=>⟨q.1,(hJ _ _).mpr q.2⟩,z⟩⟩
 |list l=>exact propext ⟨λM=>by obtain⟨w,n,e,r⟩:=M;exact⟨w,n,e,(gJ _ _).mp r⟩,λM=>by obtain⟨w,n,e,r⟩:=M;exact⟨w,n,e,(gJ _ _).mpr r⟩⟩
 |_=>rfl
end
section
variable{C:Cx}{G:Gx}{mg mb:Jq->Option Jf}{σ:PH}{h:Ji}{env:Js}{ρ:Rho}{n:Nat}{A:Jj}{l:List Js}
theorem Sim.un(m:Sim C σ h):Sim C.un σ h:=⟨m.base,m.new,λa o e=>by simpa only[wt] using m.objs a o e,m.rich⟩
theorem Sim.re(m:Sim C.un σ h):Sim C σ h:=⟨m.base,m.new,λa o e=>by simpa only[wt] using m.objs a o e,m.rich⟩
theorem EnvR.un(x:EnvR C env ρ σ h):EnvR C.un env ρ σ h:=⟨x.fn,x.glob,x.blt,by simpa only[hJ] using x.ns,by simpa only[hJ] using x.cell,x.newL,x.baseL,x.baseC,x.newC,x.apart,x.hasC⟩
theorem EnvR.re(x:EnvR C.un env ρ σ h):EnvR C env ρ σ h:=⟨x.fn,x.glob,x.blt,by simpa only[hJ] using x.ns,by simpa only[hJ] using x.cell,x.newL,x.baseL,x.baseC,x.newC,x.apart,x.hasC⟩
theorem AOK.un(x:AOK C n A l σ h):AOK C.un n (A.mark e) l σ h:=⟨x.depth,x.units,x.stack,x.frs,(λh=>h.elim)⟩
theorem AOK.re{S:Ji}(x:AOK C.un n (A.mark e) l σ' S)(y:AOK C n A l σ h):AOK C n A l σ' S:=⟨x.depth,x.units,x.stack,x.frs,y.calm⟩
theorem GOK.un(g:GOK C G mg mb):GOK C.un G.un mg mb:=⟨g.g,g.b,g.nolimit,g.blt,λx p e=>by simpa only[hJ] using g.glob x p e,g.full,(λh=>by exact ft h),g.fv,g.fn⟩
end
section
variable{C:Cx}{G:Gx}{mg mb:Jq->Option Jf}{n:Nat}
theorem nL{s:Je}{T:Rho}
  {tst:Rho->PH->(Bool->PH->Prop)->Prop}{el:Rho->PH->Post->Prop}
  (Y:EnvR C env T σ s.heap)(k:AOK C n A l σ s.heap)(r:ScR sc env)(ok:eC sc scope=Jc)(Z:ownOk tg scope=Jc)(ht:mTg scope tg t=Jc)(hx:mTg sc (.name x) (.Name (Qb x) m)=Jc)
  (U:∀x,JQ iter env x=pure x)
  (w:iZ C A env t iter σ s (λxs chk σ1=>fG chk tg T tst el xs [] σ1 λu O=>wnew (.list u) O λv σ3=>Q .next (T.put x v) σ3) (SX C n A l env σ s X))
  (P:∀i,ScR scope i->∀ρ' σ' s' I,EnvR C i ρ' σ' s'.heap->Sim C σ' s'.heap->AOK C n A l σ' s'.heap->tst ρ' σ' I->∀E,Jh (Mo C) A (tests K i) (λok W=>∃j,A4 (Sim C j W.heap) (Step none1 σ' s'.heap j W.heap) (Rest s' W)<|I ok j) E s')
  (S:∀i,ScR scope i->∀ρ' σ' s' Q,EnvR C i ρ' σ' s'.heap->Sim C σ' s'.heap->AOK C n A l σ' s'.heap->el ρ' σ' Q->∀E,Jh (Mo C) A (Jw g i) (VP C none1 σ' s' Q) E s'):
  Jh (Mo C) A (comprehension (.ListComp g [⟨t,iter,K,0⟩] scope pos) scope env J (newList []) Jd (Jw iter env)<|Ja (assign (.Name (Qb x) m) env)) (λo0 s'=>SP C n A l env σ s Q .next s') (SX C n A l env σ s X) s:=by
 refine pf (Q:=λv σ3=>Q .next (T.put x v) σ3) Y k r ok Z ht U w P S λD σ3 s3 L m3 a r3 d h2 h3 ⟨z,hn⟩ hq=> ?_;show Jh _ A (assign (.Name (Qb x) m) env<|.ref D) _ _ _;refine g8 (tg:= .name x) (ρ':=T.put x<|.ref D) (λq=>ft q) hx (Y.step a) m3 (n0 r hx) (p:= .ref D) rfl rfl λR b N r4=> ?_;have h:¬ownE env L:=λq=>by obtain⟨o,e,o0⟩:=lS Y q;exact ns<|d.symm.trans e
 have V:R.heap.Ns L z:=Ns.like hn λo e=>⟨o,b.mv L o (λf=>h<|ix f) e,.refl o⟩
 refine⟨z,V,λh' B=> ?_⟩;have mv:Mv (· =L) R.heap h':=λc o f e=>B.extBut c o f e;obtain⟨o,es,ep,M,hd,o0⟩:=V;have H:Fok C σ3 R.heap (· =L):=λc f=>by
  have f:c=L:=f;subst f;exact⟨h3,h2,gQ M<|dA hd⟩
 refine⟨.next,T.put x (.ref D),σ3,rfl,N.mv mv H (λq=>h (.inl (q:env.locals=L).symm)) (λy c hc q=>h (.inr ⟨y,(q:c=L)▸hc⟩)),b.sim.mv mv H,
  (b.step Y a.own).mv mv (λc f=>by have f:c=L:=f;subst f;exact d),r3.trans r4,((k.step a).asg b).mv mv (λen he Lf hf q=> ?_),hq⟩
 obtain⟨o0,L',o',o0,o0,e1,o0,o0,F,o0⟩:=k.frs en he;obtain rfl:=sj<|hf.symm.trans e1;have q:Lf=L:=q;subst q;exact ns<|d.symm.trans F
theorem jk(g:GOK C G mg mb){K:List PV->(PH->Prop)->PH->Prop}
  (q:G.calm=Jc)(hi:ItOK C G n sc tg k es i)(h:mTg c tg t=Jc)(I:At C n sc env L A l σ s)
  (w:wes G (aO C n) es L σ (λvs σ1=>src k vs σ1 λxs chk=>xs.length<=lim/\K xs chk σ1) λx σ1=>X x L σ1):iZ C A env t i σ s K (SX C n A l env σ s X):=λR b=>
 YI (kM g q hi h I w R b) (λo0 o0 x=>YI x (λo0 o0 y=>y) λo0 o0 y=>XP.stmt I.ev I.ak y) λo0 o0 y=>XP.stmt I.ev I.ak y
theorem j2{pos:Pos}{Q:Flow->Je->Prop}{Er:Jf->Je->Prop}(E:JR v (Ja t) pos.line env=pure Jd)(w:swappedStores [t] v env=pure Jb)
  (W:kz t=Jc)(h:Jh (Mo C) A (Jw v env) (λx s₁=>Jh (Mo C) A (assign t env x) (λo0=>Q .next) Er s₁) Er s):Jh (Mo C) A (exec (.Assign [t] v pos) env) Q Er s:=by
 refine wpAny_Assign_stores (YI h (λx s₁ V=> ?_) λo0 o0 x=>x) E w;have:(JM [t] env).map (·.2)=[assign t env]:=by rcases t with⟨⟩<;>first|rfl|exact ft W
 rw[this];exact V
theorem nK(h:xk v≠7):swappedStores [.Tuple es k p] v env=pure Jb:=by
 induction v using Expr.casesOn with
 |Tuple a b c=>exact absurd rfl h
 |_=>rfl
section
variable{sc:Jk}{e:E}{v:Jl}{pos:Pos}
theorem xT(g:GOK C G mg mb)(hx:mTg sc (.tup xs) (.Tuple es a b)=Jc)(hz:kz v=Jc)(o:xk v≠7)(c:EvOK C G n sc e v):StK C G n sc (.assign (.tup xs) e) (.Assign [.Tuple es a b] v pos):=λ{F L A l W s Q X} I w=>by
 refine j2 (gu hz rfl) (nK o) rfl (YI (c I.toAt w.2) (λJ q hv=> ?_) λo0 o0 x=>XP.stmt I.ev I.ak x);obtain⟨p,T,h,m,t,r,f⟩:=hv;obtain⟨O,R,f⟩:=om f;exact mI (λo0=>I.ak.calm<|g.calm w.1) I.sr hx I.ev I.ak t r m h R f
theorem mw{R:Je->Prop}{Q:Flow->Je->Prop}{Er:Jf->Je->Prop}(hQ:∀s',R s'->Q .next s')
  (hs:JR (.ListComp elt [⟨t,iter,ifs,0⟩] scope p) (Ja<|.Name y pz) pos.line env=pure Jc)
  (h:Jh (Mo C) A (comprehension (.ListComp elt [⟨t,iter,ifs,0⟩] scope p) scope env (firstIterPos [⟨t,iter,ifs,0⟩] p) (newList []) Jd (Jw iter env)<|Ja (assign (.Name y pz) env)) (λo0 s'=>R s') Er s):
  Jh (Mo C) A (exec (.Assign [.Name y pz] (.ListComp elt [⟨t,iter,ifs,0⟩] scope p) pos) env) Q Er s:=by
 rw[exec_Assign_Name_used _ _ _ _ hs];refine YG<|YK (YG ?_);show Jh _ A (do let _<-comprehension (.ListComp elt [⟨t,iter,ifs,0⟩] scope p) scope env _ (newList []) Jd (Jw iter env) (Ja<|assign (.Name y pz) env)) _ _ s;exact YG<|YI h (λo0 s' hq=>YH<|YH (hQ s' hq)) λo0 o0 e=>e
theorem E.comp_of{P:E->Prop}{e:E}(h:e.isC=Jc)(k:∀l tg k i,P (.comp l tg k i))(A:∀l tg k i c,P (.compIf l tg k i c)):P e:=by
 induction e using E.casesOn with
 |comp l tg j i=>exact k l tg j i
 |compIf l tg j i c=>exact A l tg j i c
 |_=>exact ft h
theorem uE(T:Todo C G n)(g:GOK C G mg mb)(hx:mTg sc (.name y) (.Name (Qb y) pz)=Jc)(hz:kz v=Jc)(hc:xk v=11->e.isC=Jc)(hm:mE sc e v=Jc):StK C G n sc (.assign (.name y) e) (.Assign [.Name (Qb y) pz] v pos):=λ{env ρ A l σ s Q X} I w=>by
 rcases ov (env:=env) (y:=Qb y) (py:=pz) (ln:=pos.line) hz with hs|⟨hs,hl⟩
 ·refine j2 hs rfl rfl (YI ((bG T g e sc v hm).1 I.toAt w) (λv1 s1 hv=> ?_) λo0 o0 x=>XP.stmt I.ev I.ak x);obtain⟨p1,σ1,hv1,m1,st1,r1,w1⟩:=hv;exact mI (tg:= .name y) (λq=>ft q) I.sr hx I.ev I.ak st1 r1 m1 hv1 rfl w1
 ·revert hm w
  refine E.comp_of (P:=λe=>mE sc e v=Jc->ws G (aO C n) (aO C.un n) (.assign (.name y) e) ρ σ Q X->Jh (Mo C) A (exec (.Assign [.Name (Qb y) pz] v pos) env) (SP C n A l env σ s Q) (SX C n A l env σ s X) s) (hc hl) (λelt tg k it hm w=> ?_) λelt tg k it c hm w=> ?_
  ·refine s0 (P:=λv=>JR v (Ja<|.Name (Qb y) pz) pos.line env=pure Jc->Jh (Mo C) A (exec (.Assign [.Name (Qb y) pz] v pos) env) (SP C n A l env σ s Q) (SX C n A l env σ s X) s) hm (λe t i sc' p h1 h2 h3 h4 h5 hs=>mw (λo0 q=>q) hs ?_) hs;have h1:=ItOK.of h1<|c5 T g it sc;exact nL (tst:=λo0 σ K=>K Jc σ) (el:=λρ' σ K=>we G (aO C n) elt ρ' σ K λo0 o0=>False) I.ev I.ak I.sr h4 h5 h2 hx (h1.fold env) (jk g w.1 h1 h2 I.toAt w.2) rJ<|p7 (bG T g elt _ _ h3).1
  ·refine np (P:=λv=>JR v (Ja<|.Name (Qb y) pz) pos.line env=pure Jc->Jh (Mo C) A (exec (.Assign [.Name (Qb y) pz] v pos) env) (SP C n A l env σ s Q) (SX C n A l env σ s X) s) hm (λe t i z sc' p h1 h2 h3 h6 h4 h5 hs=>mw (λo0 q=>q) hs ?_) hs;have h1:=ItOK.of h1<|c5 T g it sc;exact nL (tst:=λρ' σ K=>we G (aO C n) c ρ' σ (λv σ'=>cy (λb=>K b σ') v) λo0 o0=>False) (el:=λρ' σ K=>we G (aO C n) elt ρ' σ K λo0 o0=>False) I.ev I.ak I.sr h4 h5 h2 hx (h1.fold env) (jk g w.1 h1 h2 I.toAt w.2) (rV (bG T g c _ _ h6).2)<|p7 (bG T g elt _ _ h3).1
theorem yL(hz:kz v=Jc)(ho:EvOK C G n sc o u)(hi:EvOK C G n sc i y)(he:EvOK C G n sc e v):StK C G n sc (.setIdx o i e) (.Assign [.Subscript u y p] v pos):=λ{ab L A l σ s Q X} I w=>by
 refine wpAny_Assign_Subscript (YI (he I.toAt w) (λJ s1 hv=> ?_) λo0 o0 x=>XP.stmt I.ev I.ak x)<|gu hz rfl;obtain⟨r,ad,F,m1,P,r1,w1⟩:=hv;refine YI (EOK.seq (ho (I.toAt.step P m1) w1) P r1 λv2 s2 p2 ac M m2 W m r2 w2=> ?_) (λo0 o0 x=>x) λo0 o0 x=>XP.stmt I.ev I.ak x;refine YI (EOK.seq (hi (I.toAt.step W m2) w2) W r2 λv3 H p3 V d Y q Z r3 B=> ?_) (λo0 o0 x=>x) λo0 o0 x=>XP.stmt I.ev I.ak x
 induction p2 using PV.casesOn with
 |ref a=>
  rw[show v2= .ref a from M];have h:=(F.step m).step Z
  rcases (show onDO (λks l=>l.length<lim/\oK (λk=>Q .next L<|V.set a (kset ks l k r)) (keyOf p3)) (V a)\/_ from B) with B|B
  ·obtain⟨ks,g,T,N,B⟩:=kC B;obtain⟨kk,aa,U⟩:=hU B;obtain⟨xs,D⟩:=Y.dict T;obtain⟨kb,rfl,f⟩:=jZ aa d;have K:xs.length<=JJ:=by
    have h1:=D.v.length;rw[Qd] at h1;rw[h1,JU];exact Qq (KJ N)<|by decide
   refine wpAny_setItem_heap (hsz:=K) (gZ I.ak.u100) f.is D.of λh' hd hs=> ?_;obtain⟨R,O⟩:=D.set (p:=r) (v:=J) Y T f h hd hs;have t:=q.trans O;exact⟨.next,L,_,rfl,I.ev.step t,R,t.own,r3.trans ⟨rfl,rfl⟩,I.ak.step t,U⟩
  obtain⟨g,T,B⟩:=g9 (show onO (λl=>onInt (λk=>oNat (λj=>l.length<=lim/\Q .next L (V.set a<|.list (l.set j r)))<|place l.length k) p3) (V a) from B);obtain⟨k,rfl,B⟩:=cf B;obtain⟨j,hj,B,U⟩:=gA B;obtain⟨tk,rfl⟩:=d;obtain⟨vs,k',g1,g2⟩:=Y.list T;have hn:vs.size=g.length:=g2.length;refine kP g1 (by rw[hn];exact Qq B<|by decide) (by rw[hn];exact hj) ?_;have z:KR a H.heap (H.heap.update a (Obj.mapSeq (·.setIfInBounds j J))):=KR.update ..;have b:∃c,(H.heap.update a (Obj.mapSeq (·.setIfInBounds j J))).get? a=Ja (lstO (vs.setIfInBounds j J) c):=by
   refine⟨?_,?_⟩
   rotate_left
   ·rw[Ki _ g1 rfl];simp only[Obj.mapSeq,lstO];rfl
  obtain⟨c,b⟩:=b;obtain⟨R,O⟩:=Sim.upd (S:=none1) (o':= .list (g.set j r)) Y T rfl z b ⟨_,c,rfl,by rw[Array.toList_setIfInBounds];exact g2.set j h⟩;have t:=q.trans O;exact⟨.next,L,_,rfl,I.ev.step t,R,t.own,r3.trans ⟨rfl,rfl⟩,I.ak.step t,U⟩
 |_=>exact B.elim
structure ForAt(C:Cx)(St:Nat->PH->Ji->Prop)(env:Js)(n:Nat)(A:Jj)(l:List Js)(go:List PV->Rho->PH->Prop)(xs:List PV)(σ:PH)(s:Je)(i:Nat)(ρ':Rho)(σ':PH)(s':Je):Prop where
 le:i<=xs.length
 st:St i σ' s'.heap
 m:Sim C σ' s'.heap
 ev:EnvR C env ρ' σ' s'.heap
 step:Step (ownE env) σ s.heap σ' s'.heap
 rest:Rest s s'
 ak:AOK C n A l σ' s'.heap
 go:go (xs.drop i) ρ' σ'
theorem wR(g:GOK C G mg mb)(h1:mTg sc tg t=Jc)(h2:ItOK C G n sc tg k es i)(R:StsK C G n sc b y):StK C G n sc (.for_ tg k es b) (.For t i y [] pos):=λ{F ρ A l σ s Q X} I w=>by
 refine wpAny_For ?_<|h2.fold F;refine jk (t:=t) g w.1 h2 h1 I.toAt w.2 _ λII fp St an s1 H ak r O m1 P r1 j as h=> ?_;have M:∀b∈fp,¬ownE F b:=λb R q=>by obtain⟨o,e,o0⟩:=lS I.ev q;exact ns<|((j b R).1).symm.trans e
 have af:∀d∈l,∀L,d.frame=Ja L->L∉fp:=λd he L hf q=>by
  obtain⟨o0,L',o',o0,o0,e1,o0,o0,e4,o0⟩:=I.ak.frs d he;obtain rfl:=sj<|hf.symm.trans e1;exact ns<|((j L q).1).symm.trans e4
 refine codeAny_forLoop_any (λkk s'=>X3 λi z T=>kk=H.length-i+1/\ForAt C St F n A l (forGo ak tg (λρ σ K=>wss G (aO C n) (aO C.un n) b ρ σ K λo0 o0 o0=>False) Q) H σ s i z T s') ?_ _
  ⟨0,ρ,an,rfl,⟨QN _,O,m1,I.ev.step P,P.own,r1,I.ak.step P,h⟩⟩
 clear O m1 h;intro kk s' hI;obtain⟨i,z,T,rfl,J⟩:=hI;have O:=J.st;have m':=J.m;have ab:=J.ev;have W:=J.step;have r':=J.rest;have D:=J.ak;have h:=J.go;have hi:=J.le;clear J;have fo:=r.fok O;by_cases N:i<H.length
 ·have hx:H[i]? =Ja H[i]:=Qf N;rw[List.drop_eq_getElem_cons N] at h;obtain⟨U,h⟩:=h;obtain⟨au,ai,h⟩:=om h;refine r.item hx m' U O λv s1 Y=> ?_;refine Y _ _ λs2 hv m2 m ad r2=> ?_
  ·have aj:=ab.mv m fo (λq=>M _ q<|.inl rfl) λy c Z q=>M _ q<|.inr ⟨y,Z⟩;have ap:=W.mv m (λc Z=>(j c Z).1);have aq:=D.mv m (λd he L hf q=>af d he L hf q);refine g8 (λo0=>r.hdn) h1 aj m2 (n0 I.sr h1) hv ai λs3 a3 ar r3=> ?_;have ac:=a3.step I.ev ap;have ao:=aq.asg a3;have B:=r.mv ad a3.mv a3.fok λb R q=>M b R<|ix q;refine YI (R ⟨⟨I.sr,ar,a3.sim,ao⟩,I.tf⟩ h) (λf s4 h4=> ?_) λo0 o0 x=>SX.none x;obtain⟨fl,ae,a,f4,aa,m4,V,r4,ah,h⟩:=h4;have u:=r.step B V M
   induction fl with
   |next=>
    simp only[FR] at f4;subst f4;exact⟨H.length-(i+1)+1,t2 N,i+1,ae,a,rfl,⟨N,u,m4,aa,ac.trans V,((r'.trans r2).trans r3).trans r4,ah,h⟩⟩
   |ret p=>
    obtain⟨v4,rfl,al⟩:=f4;exact⟨.ret p,ae,a,⟨v4,rfl,al⟩,aa,m4,ac.trans V,((r'.trans r2).trans r3).trans r4,ah,h⟩
 ·have am:i=H.length:=Nat.le_antisymm hi<|QT.mp N;subst am;rw[List.drop_length] at h;refine r.done m' h.1 O λs2 m2 m r2=> ?_;refine JK ?_;exact⟨.next,z,T,rfl,ab.mv m fo (λq=>M _ q<|.inl rfl)<|λy c Z q=>M _ q<|.inr ⟨y,Z⟩,m2,W.mv m<|λc Z=>(j c Z).1,r'.trans r2,D.mv m<|λd he L hf q=>af d he L hf q,h.2⟩
end
end
section
variable{mg mb:Jq->Option Jf}{n:Nat}
def WS(n:Nat)(mg mb:Jq->Option Jf)(st:S):Prop:=∀ (C:Cx) (G:Gx),Todo C G n->Todo2 C G n->Todo C.un G.un n->Todo2 C.un G.un n->GOK C G mg mb->∀ (sc:Jk) (x:Jo),mS sc st x=Jc->StK C G n sc st x
def WSs(n:Nat)(mg mb:Jq->Option Jf)(s:List S):Prop:=∀ (C:Cx) (G:Gx),Todo C G n->Todo2 C G n->Todo C.un G.un n->Todo2 C.un G.un n->GOK C G mg mb->∀ (sc:Jk) (x:List Jo),mSs sc s x=Jc->StsK C G n sc s x
theorem lor(h:(!a||b)=Jc)(T:a=Jc):b=Jc:=by rw[T] at h;exact h
theorem bne7(h:(!(xk x==k))=Jc):xk x≠k:=λq=>by rw[q,beq_self_eq_true] at h;exact ft h
mutual
theorem zg:∀st:S,WS n mg mb st
 | .assign (.name y) e=>λC G T Q X u g sc o0 h=>wX (P:=StK C G n sc (.assign (.name y) e)) h λo0 o0 o0 N Y=>uE T g N (and2 (and2 Y).1).1 (λq=>lor (and2 (and2 Y).1).2 (beq_iff_eq.mpr q)) (and2 Y).2
 | .assign (.tup xs) e=>λC G T Q X u g sc o0 h=>zH (P:=StK C G n sc (.assign (.tup xs) e)) h λo0 o0 o0 o0 o0 N Y=>xT g N (and2 (and2 Y).1).1 (bne7 (and2 (and2 Y).1).2) (bG T g e _ _ (and2 Y).2).1
 | .setIdx o i e=>λC G T Q X u g sc o0 h=>nI (P:=StK C G n sc (.setIdx o i e)) h λt v p N Y=>p5 (P:=λt=>StK C G n sc (.setIdx o i e) (.Assign [t] v p)) N λo0 o0 o0 J O=>yL (and2 Y).1 (bG T g o _ _ J).1 (bG T g i _ _ O).1 (bG T g e _ _ (and2 Y).2).1
 | .expr e=>λC G T Q X u g sc o0 h=>xG (P:=StK C G n sc (.expr e)) h λo0 o0 h=>uC (Y9 (and2 h).1) (bG T g e _ _ (and2 h).2).1
 | .ret e=>λC G T Q X u g sc o0 h=>Ac (P:=StK C G n sc (.ret e)) h λo0 o0 h=>xN (bG T g e _ _ h).1
 | .if_ t b o=>λC G T Q X u g sc o0 h=>Aq (P:=StK C G n sc (.if_ t b o)) h λo0 o0 o0 o0 N Y J=>Ae (bG T g t _ _ N).2 (gL b C G T Q X u g _ _ Y) (gL o C G T Q X u g _ _ J)
 | .for_ tg k V b=>λC G T Q X u g sc o0 h=>z8 (P:=StK C G n sc (.for_ tg k V b)) h λo0 o0 o0 o0 N Y J=>wR g N (.of Y<|c5 T g V _)<|gL b C G T Q X u g _ _ J
 | .while_ t b=>λC G T Q X u g sc o0 h=>wm (P:=StK C G n sc (.while_ t b)) h λo0 o0 o0 N Y=>Q.while_ (bG T g t _ _ N).2 (gL b C G T Q X u g _ _ Y)
 | .raise c args=>λC G T Q X u g sc o0 h=>uL (P:=StK C G n sc (.raise c args)) h λv q h=>qR (P:=λv=>StK C G n sc (.raise c args) (.Raise (Ja v) Jb q)) h λo0 o0 o0 N Y J=>λI w=>Q.raise (g.full w.1.1) (g.calm w.1.2.1) N Y (Y6 (and2 J).2) (c5 T g args _ _ (and2 J).1) I w
 | .try1 b c h=>λC G T Q X u g sc o0 m=>x6 (P:=StK C G n sc (.try1 b c h)) m λo0 o0 o0 o0 o0 o0 N Y O=>λI w=>Q.try1 (g.full w.1.1) (g.calm w.1.2.1) Y (gL b C G T Q X u g _ _ N) (gL h _ _ X u X u g.un _ _ O) I w
theorem gL:∀s:List S,WSs n mg mb s
 |[]=>λC G T Q X u g o0 xs h=>by
  rcases xs with o0|⟨o0,o0⟩
  ·exact vq
  ·exact ft h
 |a::r=>λC G T Q X u g o0 xs h=>by
  rcases xs with o0|⟨x,xs⟩
  ·exact ft h
  ·exact su (zg a C G T Q X u g _ _ (and2 h).1)<|gL r C G T Q X u g _ _ (and2 h).2
end
end
section
variable{M:Model}{A:Jj}{E:Jf->Je->Prop}{s:Je}
noncomputable def frsOf(l:List Js):List Jg:=l.filterMap (·.frame)
structure Noted(l:List Js)(e:Jg)(oe:Jp)(vs:Array Jf)(fo:Option Jg)(F:Jg->Prop)(h h':Ji):Prop where
 same:∀b o,¬F b->b∉frsOf l->h.get? b=Ja o->h'.get? b=Ja o
 slots:∀b o,¬F b->h.get? b=Ja o->∃sl,h'.get? b=Ja {o with slots:=sl}
 exc:∃T oT ts o' vs',(h.get? T=Jb\/(F T/\vs[1]? =Ja (.ref T)))/\T≠e/\h'.get? e=Ja o'/\o'.cls=oe.cls/\o'.dict=oe.dict/\o'.data= .fields vs'/\vs'[1]? =Ja (.ref T)/\vs'[2]? =vs[2]? /\
  h'.get? T=Ja oT/\oT.data= .fields ts/\ts[3]? =Ja (fo.elim Value.none λf=>Jx f)
 alive:∀b,F b->(∃o,h.get? b=Ja o)->∃o,h'.get? b=Ja o
theorem qZ{o:Jp}(f:Array Jf->Array Jf):(o.mapFields f).dict=o.dict:=by
 obtain⟨c,d,t,l⟩:=o;rcases t with⟨⟩<;>rfl
theorem kS{o W:Jp}{vs t:Array Jf}{fo:Option Jg}{Q:Unit->Je->Prop}(O:s.heap.get? e=Ja o)(v:o.data= .fields vs)(N:vs[1]? =Ja (.ref T))(Y:s.heap.get? T=Ja W)(d:W.data= .fields t)(J:3<t.size)
  (h:Q () {s with heap:=s.heap.update T (Obj.mapFields (·.setIfInBounds 3 (fo.elim Value.none λf=>Jx f)))}):Jh M A (JS (.ref e) fo) Q E s:=by
 unfold JS;refine YG<|YL O v N ?_;rw[Y8 (show(Value.ref T !=Value.none)=Jc from by simp)];exact JF Y d J h
theorem mH{env:Js}{oe:Jp}{vs:Array Jf}{Q:Unit->Je->Prop}
  (hfr:A.frames=Ja (env::outer))(hl:s.heap.FunFrames base (env::outer))(hf:env.frame=Ja L)(he:s.heap.get? e=Ja oe)(hd:oe.data= .fields vs)(hsz:1<vs.size)
  (hK:∀s' o' vs' T,s'.heap.get? e=Ja o'->o'.data= .fields vs'->vs'[1]? =Ja (.ref T)->Jh M A (JS (.ref e) fo) Q E s'->Jh M A K Q E s')
  (h:∀h',Noted (env::outer) e oe vs fo (· =e) s.heap h'->Q () {s with heap:=h'}):
  Jh M A (do let a<-frameOf env;let pl<-entryPlaceOf L hadNext;let b<-EntryCells.newEntry head a .none (Jx L) .none pl;setField (.ref e) 1 b) (λo0 s'=>Jh M A K Q E s') E s:=by
 have hene:e∉frsOf (env::outer):=λhm=>by
  obtain⟨o0,o,ho,hnf⟩:=hl.mem hm;rw[he] at ho;injection ho with ho;subst ho;exact hnf vs hd
 refine YG (wpAny_frameOf_fun hfr hl hf λh1 hs1=> ?_);refine YG (wpAny_entryPlaceOf λpl hpl=> ?_);unfold EntryCells.newEntry newFields;refine YG<|wpAny_newObj_type ?_ (hpl.sizeOk5 _ _ _ _ _);generalize hob:({cls:= .type "traceback",dict:=Jb,data:= .fields ([head,.ref L,.none,Jx L,.none]++(if pl.isEmpty then List.replicate 6 Value.none else pl)).toArray}:Jp)=ob;have hod:ob.data= .fields ([head,.ref L,.none,Jx L,.none]++(if pl.isEmpty then List.replicate 6 Value.none else pl)).toArray:=by rw[<-hob]
 have hfb:ob.isFreed=Jd:=by rw[<-hob];rfl
 have he1:h1.get? e=Ja oe:=(hs1.2.1 e hene).trans he;have he2:=Qm (h:=h1) ob he1;refine JF he2 hd hsz ?_;have hTe:h1.objs.size≠e:=Yj<|QS he1;have hd3:=Obj.data_mapFields hd (·.setIfInBounds 1 (Value.ref h1.objs.size));have he3:=Ki (Obj.mapFields (·.setIfInBounds 1 (Value.ref h1.objs.size))) he2<|Obj.isFreed_of_fields hd3;have hT3:=(KF (h1.push ob) (Obj.mapFields (·.setIfInBounds 1 (Value.ref h1.objs.size)))<|Ne.symm hTe).trans (QL h1 hfb);have h3s:3<(([head,.ref L,.none,Jx L,.none]++(if pl.isEmpty then List.replicate 6 Value.none else pl)).toArray:Array Jf).size:=by
  simp only[Yn,QD,KW,WJ];exact zll (by decide)<|KP _ _
 have hv1:(vs.setIfInBounds 1<|Value.ref h1.objs.size)[1]? =Ja (.ref h1.objs.size):=by rw[Wc hsz]
 refine hK _ _ _ _ he3 hd3 hv1<|kS he3 hd3 hv1 hT3 hod h3s (h _ ?_);have hdT:=Obj.data_mapFields hod (·.setIfInBounds 3 (fo.elim Value.none λf=>Jx f));have keep:∀b o,b≠e->h1.get? b=Ja o->
   (((h1.push ob).update e (Obj.mapFields (·.setIfInBounds 1 (Value.ref h1.objs.size)))).update h1.objs.size
    (Obj.mapFields (·.setIfInBounds 3 (fo.elim Value.none λf=>Jx f)))).get? b=Ja o:=λb o hbe hb=>by
  have hbT:h1.objs.size≠b:=Yj<|QS hb;rw[KF _ _ hbT,KF _ _ (Ne.symm hbe)];exact Qm _ hb
 have hee:(((h1.push ob).update e (Obj.mapFields (·.setIfInBounds 1 (Value.ref h1.objs.size)))).update h1.objs.size
    (Obj.mapFields (·.setIfInBounds 3 (fo.elim Value.none λf=>Jx f)))).get? e=Ja (oe.mapFields (·.setIfInBounds 1 (.ref h1.objs.size))):=by
  rw[KF _ _ hTe];exact he3
 refine⟨λb o hb hm e1=>keep b o hb ((hs1.2.1 b hm).trans e1),λb o hb e1=> ?_,⟨h1.objs.size,_,_,_,_,.inl ?_,hTe,hee,Obj.cls_mapFields _ _,qZ _,hd3,hv1,?_,Ki _ hT3 (Obj.isFreed_of_fields hdT),hdT,?_⟩,λb hb o0=>by
  have hb:b=e:=hb;subst hb;exact⟨_,hee⟩⟩
 ·obtain⟨sl,q⟩:=hs1.2.2 b o e1;exact⟨sl,keep b _ hb q⟩
 ·induction q:s.heap.get? h1.objs.size with
  |none=>rfl
  |some o=>obtain⟨sl,w⟩:=hs1.2.2 _ o q;exact absurd (QS w)<|KG _
 ·rw[Array.getElem?_setIfInBounds_ne (by decide)]
 ·show(Array.setIfInBounds _ 3<|fo.elim Value.none λf=>Jx f)[3]? =Ja _;rw[Wc h3s]
theorem wl{env:Js}{oe:Jp}{Q:Unit->Je->Prop}
  (hfr:A.frames=Ja (env::outer))(hl:s.heap.FunFrames base (env::outer))(hf:env.frame=Ja L)(he:s.heap.get? e=Ja oe)(hd:oe.data= .fields vs)
  (hK:∀s' o' vs' T,s'.heap.get? e=Ja o'->o'.data= .fields vs'->vs'[1]? =Ja (.ref T)->Jh M A (JS (.ref e) fo) Q E s'->Jh M A K Q E s')
  (hv:vs[1]? =Ja .none\/∃T oT ts,vs[1]? =Ja (.ref T)/\T≠e/\s.heap.get? T=Ja oT/\oT.data= .fields ts/\(ts[3]? =Ja .none\/ts[3]? =Ja (Jx L)))
  (h:∀h',Noted (env::outer) e oe vs fo (λb=>b=e\/vs[1]? =Ja (.ref b)) s.heap h'->Q () {s with heap:=h'}):
  Jh M A (noteFrame (.ref e) env) (λo0 s'=>Jh M A K Q E s') E s:=by
 unfold noteFrame;simp only[hf]
 rcases hv with h1|⟨T,oT,ts,h1,hTe,hT,hdT,h3|h3⟩
 ·refine YG<|YL he hd h1 ?_;rw[Y7 (by decide)];refine mH hfr hl hf he hd (Kn.mp h1).1 hK λh' N=>h h' ⟨λb o hb=>N.same b o λq=>hb<|.inl q,λb o hb=>N.slots b o λq=>hb<|.inl q,?_,λb hb=> ?_⟩
  ·obtain⟨T',oT',ts',o',vs',q1,q2⟩:=N.exc;exact⟨T',oT',ts',o',vs',q1.imp id λz=>⟨.inl z.1,z.2⟩,q2⟩
  ·rcases hb with hb|hb
   ·exact N.alive b hb
   ·rw[h1] at hb;cases hb
 ·refine YG<|YL he hd h1 ?_;rw[Y8 (show(Value.ref T !=Value.none)=Jc from by simp)];refine YG<|YL hT hdT h3 ?_;rw[Y7 (show ¬ ((Value.none==Jx L)=Jc) from by simp[Jx])];refine YG<|wpAny_setField hT hdT (Kn.mp h3).1 ?_;have other:∀b,b≠T->(s.heap.update T (Obj.mapFields (·.setIfInBounds 3 Value.none))).get? b=s.heap.get? b:=λb hb=>KF _ _<|Ne.symm hb;have noRecord:∀b o,s.heap.get? b=Ja o->(∀vs,o.data≠ .fields vs)->b≠T:=λb o hb hnf q=>by
   rw[q,hT] at hb;injection hb with hb;subst hb;exact hnf ts hdT
  refine mH hfr (hl.of_keeps λb o hb hnf=>⟨o,(other b<|noRecord b o hb hnf).trans hb,rfl⟩) hf ((other e<|Ne.symm hTe).trans he) hd (Kn.mp h1).1 hK λh' N=>h h' ?_;have hTu:(s.heap.update T (Obj.mapFields (·.setIfInBounds 3 Value.none))).get? T=Ja (oT.mapFields (·.setIfInBounds 3 Value.none)):=Ki _ hT<|Obj.isFreed_of_fields (Obj.data_mapFields hdT _);refine⟨λb o hb hm e1=>N.same b o (λq=>hb<|.inl q) hm<|(other b λq=>hb<|.inr (by rw[q];exact h1)).trans e1,λb o hb e1=>N.slots b o (λq=>hb<|.inl q)<|(other b λq=>hb<|.inr (by rw[q];exact h1)).trans e1,?_,λb hb ho=> ?_⟩
  ·obtain⟨T',oT',ts',o',vs',q1,q2⟩:=N.exc;refine⟨T',oT',ts',o',vs',.inl ?_,q2⟩
   rcases q1 with q1|q1
   ·rw[<-other T' λq=>by rw[q,hTu] at q1;exact sn q1];exact q1
   ·exact absurd q1.1 q2.1
  ·rcases hb with hb|hb
   ·exact N.alive b hb<|by subst hb;exact⟨_,(other b<|Ne.symm hTe).trans he⟩
   ·rw[h1] at hb;cases hb;obtain⟨sl,q⟩:=N.slots T _ hTe hTu;exact⟨_,q⟩
 ·refine YG<|YL he hd h1 ?_;rw[Y8 (show(Value.ref T !=Value.none)=Jc from by simp)];refine YG<|YL hT hdT h3 ?_;rw[Y8 (show((Jx L==Jx L)=Jc) from beq_self_eq_true _)];refine YH ?_;have h3s:=(Kn.mp h3).1;refine hK _ _ _ _ he hd h1<|kS he hd h1 hT hdT h3s (h _ ?_);have hdT':=Obj.data_mapFields hdT (·.setIfInBounds 3 (fo.elim Value.none λf=>Jx f));have other:∀b,b≠T->(s.heap.update T (Obj.mapFields (·.setIfInBounds 3 (fo.elim Value.none λf=>Jx f)))).get? b=s.heap.get? b:=λb hb=>KF _ _<|Ne.symm hb;have hTu:=Ki (Obj.mapFields (·.setIfInBounds 3 (fo.elim Value.none λf=>Jx f))) hT<|Obj.isFreed_of_fields hdT';refine⟨λb o hb o0 e1=>(other b λq=>hb<|.inr (by rw[q];exact h1)).trans e1,λb o hb e1=>⟨o.slots,(other b λq=>hb<|.inr (by rw[q];exact h1)).trans e1⟩,⟨T,_,_,oe,vs,.inr ⟨.inr h1,h1⟩,hTe,(other e<|Ne.symm hTe).trans he,rfl,rfl,hd,h1,rfl,hTu,hdT',?_⟩,λb hb ho=> ?_⟩
  ·rw[Wc h3s]
  ·obtain⟨o,eo⟩:=ho;by_cases q:b=T
   ·subst q;exact⟨_,hTu⟩
   ·exact⟨o,(other b q).trans eo⟩
end
section
variable{C:Cx}{σ:PH}{A:Jj}{Er:Jf->Je->Prop}{s:Je}{l:List Js}
theorem Noted.facts{F:Jg->Prop}{W:Ji}{S:Jg->Prop}{h₀:Ji}(N:Noted l e g vs fo F s.heap W)(m:Sim C σ s.heap)(r:Frs C σ s.heap l)
  (J:∀b,F b->C.B.get? b=Jb/\σ b=Jb/\h₀.get? b=Jb/\∀o,s.heap.get? b=Ja o->∃vs,o.data= .fields vs)(st:Step S B h₀ σ s.heap):
  Sim C σ W/\Step S B h₀ σ W/\(∀b o,¬F b->s.heap.get? b=Ja o->∃o',W.get? b=Ja o'/\Like o o'):=by
 have Q:∀b,b∈frsOf l->σ b=Jb/\C.B.get? b=Jb/\X3 λo U n=>s.heap.get? b=Ja o/\o.data= .dict U n:=λb h=>by
  obtain⟨Y,O,q⟩:=List.mem_filterMap.mp h;obtain⟨o0,L,o,U,n,T,j,X,u,V⟩:=r Y O;obtain rfl:=sj<|q.symm.trans T;exact⟨X,j,o,U,n,u,V⟩
 have y:∀b o,¬F b->s.heap.get? b=Ja o->∃o',W.get? b=Ja o'/\Like o o':=λb o h T=>by
  by_cases v:b∈frsOf l
  ·obtain⟨o0,o0,P,U,n,j,X⟩:=Q b v;obtain rfl:=sj<|T.symm.trans j;obtain⟨I,q⟩:=N.slots b o h T;exact⟨_,q,rfl,rfl,rfl,λk=>absurd X<|k U n⟩
  ·exact⟨o,N.same b o h v T,.refl o⟩
 have H:∀b o,s.heap.get? b=Ja o->∃o',W.get? b=Ja o':=λb o T=>by
  by_cases h:F b
  ·exact N.alive b h ⟨o,T⟩
  ·obtain⟨o',q,o0⟩:=y b o h T;exact⟨o',q⟩
 have t:Step S B h₀ σ W:=by
  refine⟨λb o T j=> ?_,st.grow,st.fix,λb T=> ?_⟩
  ·obtain⟨c,o',Z,K⟩:=st.keep b o T j;have h:¬F b:=λf=>by exact ns (((J b f).2.2.1).symm.trans T)
   obtain⟨P,z,G⟩:=y b o' h Z;exact⟨c,P,z,λk=>(K k).trans G⟩
  ·refine st.live b ?_
   induction q:s.heap.get? b with
   |none=>rfl
   |some o=>obtain⟨o',w⟩:=H b o q;exact ns<|T.symm.trans w
 have M:Step F σ s.heap σ W:=by
  refine⟨λb o T j=> ?_,λb o T=>⟨o,T⟩,λb o T o0=>T,λb T=> ?_⟩
  ·by_cases h:F b
   ·obtain⟨o',w⟩:=N.alive b h ⟨o,T⟩;exact⟨j,o',w,λk=>by obtain⟨x,n,q⟩:=k h;obtain⟨vs,Z⟩:=(J b h).2.2.2 o T;rw[q] at Z;cases Z⟩
   ·obtain⟨o',w,q⟩:=y b o h T;exact⟨j,o',w,λo0=>q⟩
  ·induction q:s.heap.get? b with
   |none=>rfl
   |some o=>obtain⟨o',w⟩:=H b o q;exact ns<|T.symm.trans w
 have same:∀b o,¬F b->b∉frsOf l->s.heap.get? b=Ja o->W.get? b=Ja o:=N.same;refine⟨m.step M (λa o T=> ?_)<|λb o T=> ?_,t,y⟩
 ·obtain⟨R,j,o0⟩:=m.objs a o T;rw[j];exact same a R (λf=>by exact ns<|((J a f).2.1).symm.trans T) (λf=>by exact ns<|((Q a f).1).symm.trans T) j
 ·exact same b o (λf=>by exact ns<|((J b f).1).symm.trans T) (λf=>by exact ns<|((Q b f).2.1).symm.trans T)<|m.base b o T
theorem i5{own fo:Option Jg}{env:Js}{S:Jg->Prop}{Q:Unit->Je->Prop}(ae:A.frames=Ja (env::t))(fr:Frs C σ s.heap (env::t))(hf:env.frame=Ja L)(m:Sim C σ s.heap)
  (f:Fly C own x e σ h₀ s.heap)(ho:∀Z,own=Ja Z->Z=L)(st:Step S B h₀ σ s.heap)
  (hK:∀a s' o' U T,e= .ref a->s'.heap.get? a=Ja o'->o'.data= .fields U->U[1]? =Ja (.ref T)->Jh (Mo C) A (JS e fo) Q Er s'->Jh (Mo C) A K Q Er s')
  (h:∀W,Sim C σ W->Fly C fo x e σ h₀ W->Step S B h₀ σ W->(∃F:Jg->Prop,Step F σ s.heap σ W/\∀b o,F b->s.heap.get? b=Ja o->∃vs,o.data= .fields vs)->(X6 λa oe vs T I E=>A8 (e= .ref a) (W.get? a=Ja oe) (oe.data= .fields vs) (vs[1]? =Ja (.ref T)) (T≠a) (W.get? T=Ja I) (I.data= .fields E)<|E[3]? =Ja (fo.elim Value.none λf=>Jx f))->Q () {s with heap:=W}):
  Jh (Mo C) A (noteFrame e env) (λo0 s'=>Jh (Mo C) A K Q Er s') Er s:=by
 obtain⟨a,o,vs,k,rfl,q2,q3,q4,q5,q6,q7,q8,q9,J,ac⟩:=f;refine wl ae fr.fun hf q5 q8 (λs' o' U T=>hK a s' o' U T rfl) (J.imp id λhq=>by obtain⟨T,I,E,v,X,H,D,V,j,y,w8⟩:=hq;exact⟨T,I,E,v,X,j,y,w8.imp id λz'=>by obtain⟨Z,z1,z2⟩:=z';rw[<-ho Z z1];exact z2⟩) λW N=> ?_;have Y:∀b,(b=a\/vs[1]? =Ja (.ref b))->C.B.get? b=Jb/\σ b=Jb/\h₀.get? b=Jb/\∀o,s.heap.get? b=Ja o->∃vs,o.data= .fields vs:=λb R=>by
  rcases R with rfl|R
  ·exact⟨q2,q3,q4,λo' e'=>by obtain rfl:=sj<|q5.symm.trans e';exact⟨vs,q8⟩⟩
  ·rcases J with J|⟨T,I,E,v,X,H,D,V,j,y,w8⟩
   ·rw[J] at R;cases R
   ·rw[v] at R;cases R;exact⟨H,D,V,λo' e'=>by obtain rfl:=sj<|j.symm.trans e';exact⟨E,y⟩⟩
 obtain⟨m',aa,lk⟩:=N.facts m fr Y st;have ab:∀b o,s.heap.get? b=Ja o->(∀vs,o.data≠ .fields vs)->¬ (b=a\/vs[1]? =Ja (.ref b)):=λb o P e2 f=>by
  obtain⟨vs,e3⟩:=(Y b f).2.2.2 o P;exact e2 vs e3
 have stF:Step (λb=>b=a\/vs[1]? =Ja (.ref b)) σ s.heap σ W:=by
  refine⟨λb O P e2=> ?_,λb o P=>⟨o,P⟩,λb o P o0=>P,λb P=> ?_⟩
  ·by_cases R:b=a\/vs[1]? =Ja (.ref b)
   ·obtain⟨o',w⟩:=N.alive b R ⟨O,P⟩;exact⟨e2,o',w,λk=>by obtain⟨xs,n,q⟩:=k R;obtain⟨vs,q2⟩:=(Y b R).2.2.2 O P;rw[q] at q2;cases q2⟩
   ·obtain⟨o',w,q⟩:=lk b O R P;exact⟨e2,o',w,λo0=>q⟩
  ·induction q:s.heap.get? b with
   |none=>rfl
   |some O=>
    by_cases R:b=a\/vs[1]? =Ja (.ref b)
    ·obtain⟨o',w⟩:=N.alive b R ⟨O,q⟩;exact ns<|P.symm.trans w
    ·obtain⟨o',w,o0⟩:=lk b O R q;exact ns<|P.symm.trans w
 refine h W m' ?_ aa ⟨_,stF,λb o f P=>(Y b f).2.2.2 o P⟩ ?_
 rotate_left
 ·obtain⟨T,I,E,o',U,v,X,H,D,V,j,y,w8,w9,M,G⟩:=N.exc;exact⟨a,_,_,T,I,E,rfl,H,j,y,X,w9,M,G⟩
 obtain⟨T,I,E,o',U,v,X,H,D,V,j,y,w8,w9,M,G⟩:=N.exc;have c:C.B.get? T=Jb/\σ T=Jb/\h₀.get? T=Jb:=by
  rcases v with v|⟨v,o0⟩
  ·refine⟨?_,?_,st.live T v⟩
   ·induction q:C.B.get? T with
    |none=>rfl
    |some o=>exact sn<|(m.base T o q).symm.trans v
   ·induction q:σ T with
    |none=>rfl
    |some o=>obtain⟨O,P,o0⟩:=m.objs T o q;exact ns<|v.symm.trans P
  ·exact⟨(Y T v).1,(Y T v).2.1,(Y T v).2.2.1⟩
 refine⟨a,_,_,k,rfl,q2,q3,q4,H,q6,D.trans q7,j,w8.trans q9,.inr ⟨T,I,E,y,X,c.1,c.2.1,c.2.2,w9,M,?_⟩,?_⟩
 ·induction fo with
  |none=>exact .inl G
  |some Z=>exact .inr ⟨Z,rfl,G⟩
 ·rw[V]
  induction ac with
  |no f e=>exact .no f e
  |at_ f d od e b n z g r=>
   obtain⟨es,ep,r1,r2,r3,r4⟩:=r;obtain⟨o',g',ad⟩:=lk d od (ab d od g λvs q=>by rw[r1] at q;cases q) g;exact .at_ f d o' e b n z g' ⟨es,ep,ad.2.2.1.trans r1,r2,λi f p h1 h2=>by obtain⟨u,a,b⟩:=r3 i f p h1 h2;exact⟨u,a,VR.step stF _ _ b⟩,r4⟩
theorem sR{own:Option Jg}{env:Js}{S:Jg->Prop}{Q:Unit->Je->Prop}(r:A.frames=Ja (env::o))(O:Frs C σ s.heap (env::o))(w:env.frame=Ja L)(m:Sim C σ s.heap)
  (f:Fly C own x e σ h₀ s.heap)(d:∀Z,own=Ja Z->Z=L)(st:Step S B h₀ σ s.heap)
  (h:∀W,Sim C σ W->Fly C Jb x e σ h₀ W->Step S B h₀ σ W->Q () {s with heap:=W}):
  Jh (Mo C) A (leaving env e) Q Er s:=by
 unfold leaving;exact YG<|i5 (K:=JS e Jb) r O w m f d st (λo0 o0 o0 o0 o0 o0 o0 o0 o0 z=>z) λW a b c o0 o0=>h W a b c
end
section
set_option backward.match.sparseCases true
noncomputable def rho0(ps l:List String)(args:List PV):Rho:=ps.zip (args.map Ja)++l.map λx=>(x,Jb)
theorem lf{l:List String}{P:Prop}(h:Rho.get (l.map λx=>(x,Jb)) x=Ja p):P:=by
 induction l with
 |nil=>exact ns h
 |cons y r i=>
  have h:(if y=x then Jb else Rho.get (r.map λx=>(x,Jb)) x)=Ja p:=h;by_cases e:y=x
  ·exact ns<|(Y8 e).symm.trans h
  ·exact i<|(Y7 e).symm.trans h
theorem m8{ps l:List String}{args:List PV}:(rho0 ps l args).get x=Ja p->∃i:Nat,ps[i]? =Ja x/\args[i]? =Ja p:=by
 induction ps generalizing args with
 |nil=>exact λh=>lf h
 |cons q ps W=>
  rcases args with o0|⟨a,args⟩
  ·exact λh=>lf h
  intro h;have h:(if q=x then Ja a else(rho0 ps l args).get x)=Ja p:=h;by_cases e:q=x
  ·rw[e,<-sj ((Y8 e).symm.trans h)];exact⟨0,rfl,rfl⟩
  ·obtain⟨i,N,Y⟩:=W<|(Y7 e).symm.trans h;exact⟨i+1,N,Y⟩
section
variable{k:Jq->Option JV}
theorem nq:∀ (b:List (Jq×Jf)) (m:Jq->Option Jf) (x:Jq),x∉b.map (·.1)->bindL k b m x=m x
 |[]=>λm x h=>rfl
 |(n,v)::r=>λm x h=>by
  simp only[Qw,QB,not_or] at h;unfold bindL;rw[nq r _ x h.2]
  split
  ·exact Y7 h.1
  ·rfl
theorem ng:∀ (b:List (Jq×Jf)) (m:Jq->Option Jf) (x:Jq),x∉b.map (·.1)->PySem.bindC k b m x=m x
 |[]=>λm x h=>rfl
 |(n,v)::r=>λm x h=>by
  simp only[Qw,QB,not_or] at h;unfold PySem.bindC;rw[ng r _ x h.2]
  split
  ·rfl
  ·exact Y7 h.1
theorem ku:∀ (ns:List Jq) (vs:List Jf) (m:Jq->Option Jf) (i:Nat) (x:Jq) (v:Jf),ns.Nodup->ns[i]? =Ja x->vs[i]? =Ja v->k x=Ja .local->bindL k (ns.zip vs) m x=Ja v
 |[],_=>λo0 i x v o0 h o0 o0=>by simp at h
 |_::_,[]=>λo0 i x v o0 o0 h o0=>by simp at h
 |n::ns,w::vs=>λm i x v d N Y M=>by
  rw[QA] at d;simp only[WH];unfold bindL
  induction i using Nat.casesOn with
  |zero=>
   simp at N Y;subst N Y;rw[nq _ _ _ (by rintro q;obtain⟨p,D,e⟩:=Qi.mp q;have:=(Kx (show(p.1,p.2)∈_ from D)).1;rw[e] at this;exact d.1 this),Y8 M,Y8 rfl]
  |succ j=>exact ku ns vs _ j x v d.2 (by simpa using N) (by simpa using Y) M
theorem nH:∀ (ns:List Jq) (vs:List Jf) (m:Jq->Option Jf) (i:Nat) (x:Jq) (v:Jf),ns.Nodup->ns[i]? =Ja x->vs[i]? =Ja v->k x=Ja .cell->PySem.bindC k (ns.zip vs) m x=Ja v
 |[],_=>λo0 i x v o0 h o0 o0=>by simp at h
 |_::_,[]=>λo0 i x v o0 o0 h o0=>by simp at h
 |n::ns,w::vs=>λm i x v d N Y M=>by
  rw[QA] at d;simp only[WH];unfold PySem.bindC
  induction i using Nat.casesOn with
  |zero=>
   simp at N Y;subst N Y;rw[ng _ _ _ (by rintro q;obtain⟨p,D,e⟩:=Qi.mp q;have:=(Kx (show(p.1,p.2)∈_ from D)).1;rw[e] at this;exact d.1 this),Y7<|by rw[M];simp,Y8 rfl]
  |succ j=>exact nH ns vs _ j x v d.2 (by simpa using N) (by simpa using Y) M
end
structure FnIn(B:Ji)(ps:List String)(a:Jg)(o:Jp)(fd:Jr)(body:List Jo):Prop where
 ho:B.get? a=Ja o
 hd:o.data= .func fd
 cd:B.CodeRec fd.code fd.qualname
 hb:fd.body= .stmts body
 clo:fd.closure=[]
 glb:fd.globals=JA
 blt:fd.builtins=builtinsNs
 bind:∀vals:List Jf,vals.length=ps.length->YY fd ⟨vals,[]⟩=pure ((ps.map Qb).zip vals)
 par:(ps.all λp=>fd.scope.names.lookup (Qb p)==Ja .local||fd.scope.names.lookup (Qb p)==Ja .cell)=Jc
 nd:ps.Nodup
 co:fd.scope.isCoroutine=Jd
 gen:fd.scope.isGenerator=Jd
 kind:fd.scope.kind= .function
 free:(fd.scope.names.all λp=>p.2 != .free)=Jc
theorem FnIn.keeps{B e:Ji}{ps:List String}(F:FnIn B ps a o f body)(kp:∀b o,B.get? b=Ja o->e.get? b=Ja o):FnIn e ps a o f body:=
 ⟨kp _ _ F.ho,F.hd,F.cd.keeps kp,F.hb,F.clo,F.glb,F.blt,F.bind,F.par,F.nd,F.co,F.gen,F.kind,F.free⟩
structure FnAt(C:Cx)(f:String)(ps:List String)(sts:List S)(a:Jg)(o:Jp)(fd:Jr)(body:List Jo):Prop extends FnIn C.B ps a o fd body where
 fv:C.fv f=Ja (.ref a)
 kp:Kp C (.ref a)
 mat:mSs fd.scope sts body=Jc
section
variable{C:Cx}{G:Gx}{mg mb:Jq->Option Jf}{n:Nat}
theorem ck{l:List String}(h:l.Nodup):(l.map Qb).Nodup:=by
 induction l with
 |nil=>exact List.nodup_nil
 |cons x r i=>
  rw[QA] at h;rw[Qw,QA];exact⟨λq=>by obtain⟨y,W,e⟩:=Qi.mp q;rw[ofString_inj e] at W;exact h.1 W,i h.2⟩
theorem nR(g:GOK C G mg mb){ps:List String}{d:Jr}(F:FnIn C.B ps a o d body){args:List PV}(ls:List String)(D:args.length=ps.length){A:Jj}{s:Je}(H:AOK C (n+1) A l σ s.heap)(m:Sim C σ s.heap)(hv:VRs C σ s.heap args vs){R:Result->Je->Prop}
  (k:∀env s₁,ScR d.scope env->EnvR C env (rho0 ps ls args) σ s₁.heap->Sim C σ s₁.heap->Step none1 σ s.heap σ s₁.heap->Rest s s₁->AOK C n (A.deeper env) (env::l) σ s₁.heap->env.frame=Ja env.locals->env.locals=s.heap.objs.size->(∀x c,env.cells.lookup x=Ja c->s.heap.objs.size<=c)->
   (∀ {σ':PH} {s':Je},Step (ownE env) σ s₁.heap σ' s'.heap->Step none1 σ s.heap σ' s'.heap)->
   Jh (Mo C) (A.deeper env) (execs body env) (λf s'=>R (.ok (.ret (match f with| .ret v=>v|_=> .none))) s') (λe s'=>Jh (Mo C) (A.deeper env) (leaving env e) (λo0 W=>R (.error e) W) (λe' W=>R (.error e') W) s') s₁):codeAny (Mo C) A (.call (.ref a) ⟨vs,[]⟩) R s:=by
 have V:vs.length=ps.length:=hv.length.trans D;have B:A.depth<JZ:=by have:=H.depth;exact zl (zle (KP _ _)<|KP _ _) this
 have L:∀p∈ps,d.scope.names.lookup (Qb p)=Ja .local\/d.scope.names.lookup (Qb p)=Ja .cell:=λp U=>by
  have:=Qy.mp F.par p U;simpa [Yy] using this
 refine codeAny_call_cells B (m.base _ _ F.ho) F.hd (g.nolimit.keeps m.base) (F.cd.keeps m.base) F.hb (F.bind vs V) F.clo (λx hx=> ?_) (λs₁ r=> ?_) F.co F.gen F.kind
 ·have M:x.1∈ps.map Qb:=(Kx (show(x.1,x.2)∈_ from hx)).1;obtain⟨p,U,e⟩:=Qi.mp M;rw[<-e];refine(L p U).imp id λq=>⟨q,?_⟩
  obtain⟨c,o0,Z⟩:=eN d.scope.names (s.heap.objs.size+1) [] _ (Jv q);rw[Z];rfl
 generalize O:callEnvC d s.heap.objs.size a=env at r ⊢;have Y:env.locals=s.heap.objs.size:=by rw[<-O];rfl
 have T:∀x,env.kindOf x=d.scope.names.lookup x:=λx=>by rw[<-O];rfl
 have w:env.cells=JO (s.heap.objs.size+1) d.scope.names []:=by rw[<-O];rfl
 have z:∀x c,env.cells.lookup x=Ja c->s.heap.objs.size<=c:=λx c h=>by
  have:=r.above x c<|mem_of_lookup h;rw[Y] at this;exact KJ this
 have kp:∀b o,s.heap.get? b=Ja o->s₁.heap.get? b=Ja o:=r.toInCall.keep;have P:Step none1 σ s.heap σ s₁.heap:= .more kp;have m1:Sim C σ s₁.heap:=m.more kp;have r1:Rest s s₁:=by obtain⟨h',tk,e⟩:=r.toInCall.same;rw[e];exact⟨rfl,rfl⟩
 have u:=hv.step P;have ev:EnvR C env (rho0 ps ls args) σ s₁.heap:=by
  refine⟨by rw[<-O];exact F.kind,by rw[<-O];exact F.glb,by rw[<-O];exact F.blt,⟨_,r.toInCall.ns,λx p K j=> ?_⟩,λx p K j=> ?_,by rw[Y];exact m.fresh (Qz _),by rw[Y];exact m.freshB (Qz _),
   λx c h=>m.freshB (z x c h),λx c h=>⟨m.fresh (z x c h),_,r.cell x c h⟩,λx y c E Q=>name_of_addr r.apart (Jv E) (Jv Q),λx h=> ?_⟩
  ·obtain⟨i,E,Q⟩:=m8 K;obtain⟨v,J,I⟩:=u.get i p Q;refine⟨v,ku _ _ _ i _ v (ck F.nd) (by rw[Qu,E];rfl) J j,I⟩
  ·obtain⟨i,E,Q⟩:=m8 K;obtain⟨v,J,I⟩:=u.get i p Q;have t:env.kindOf (Qb x)=Ja .cell:=j.resolve_right λq=>by
    rw[T] at q;have:=Qy.mp F.free _<|mem_of_lookup q;simp at this
   obtain⟨c,o0,Z⟩:=eN d.scope.names (s.heap.objs.size+1) [] _ (Jv<|by rw[<-T];exact t);rw[<-w] at Z;refine⟨c,v,Z,?_,I⟩;have:=r.cell _ c Z;rw[nH _ _ _ i _ v (ck F.nd) (by rw[Qu,E];rfl) J t] at this;exact this
  ·rcases h with h|h
   ·obtain⟨c,o0,Z⟩:=eN d.scope.names (s.heap.objs.size+1) [] _ (Jv<|by rw[<-T];exact h);exact⟨c,by rw[w];exact Z⟩
   ·rw[T] at h;have:=Qy.mp F.free _<|mem_of_lookup h;simp at this
 have X:AOK C n (A.deeper env) (env::l) σ s₁.heap:=by
  refine⟨?_,?_,?_,?_,H.calm⟩
  ·have:=H.depth;show A.depth+1+n+2<_;exact zl (Kf (Kd<|QQ _ _ _) 2) this
  ·have:=H.units;show A.units+3+30*n+300<_;exact zr6 this
  ·show A.frames.map (env:: ·)=_;rw[H.stack];rfl
  ·intro en S
   rcases QB.mp S with rfl|S
   ·obtain⟨o',es,ep,q1,q2,o0⟩:=r.toInCall.ns;refine⟨by rw[ev.fn];simp,en.locals,o',es,ep,by rw[<-O];rfl,by rw[Y];exact m.freshB<|Qz _,by rw[Y];exact m.fresh<|Qz _,q1,q2⟩
   ·exact(H.step P).frs en S
 have sr:ScR d.scope env:=by
  have:d.scope=env.scope:=by rw[<-O];rfl
  rw[this];exact .self env
 have back:∀ {σ':PH} {s':Je},Step (ownE env) σ s₁.heap σ' s'.heap->Step none1 σ s.heap σ' s'.heap:=λ{σ' s'} st=>(P.own.trans st).mono λb hb q=>by
  have N:b<s.heap.objs.size:=by
   induction e:s.heap.get? b with
   |none=>rw[e] at hb;exact ft hb
   |some o=>exact QS e
  rcases q with q|⟨x,q⟩
  ·rw[q,Y] at N;exact(KG _ N).elim
  ·exact(KG _<|QO N (z x b q)).elim
 exact k env s₁ sr ev m1 P r1 X (by rw[<-O];rfl) Y z back
theorem y7(T:Todo C G n)(T2:Todo2 C G n)(Tu:Todo C.un G.un n)(T2u:Todo2 C.un G.un n)(g:GOK C G mg mb){ps:List String}(F:FnAt C f ps sts a o fd body)
  {args:List PV}(ls:List String)(hlen:args.length=ps.length)
  (w:wss G (aO C n) (aO C.un n) sts (rho0 ps ls args) σ (λfl o0 σ'=>match fl with
   | .next=>Q .none σ'
   | .ret v=>Q v σ') λx o0 σ'=>X x σ'):aO C (n+1) f args σ Q X:=by
 refine⟨.ref a,F.fv,F.kp,λA l s vs ak m hv=>wpAny_call<|nR g F.toFnIn ls hlen ak m hv λenv s₁ sr ev m1 st1 r1 ak1 hfr hloc habove back=> ?_⟩;refine YI (gL sts C G T T2 Tu T2u g fd.scope body F.mat ⟨⟨sr,ev,m1,ak1⟩,l,rfl,hfr⟩ w) (λfl s' h=> ?_) λx s' h=> ?_
 ·obtain⟨f',ρ',σ',h1,o0,m',st',r',o0,w⟩:=h
  induction f' with
  |next=>
   simp only[FR] at h1;subst h1;exact⟨.none,σ',ma,m',back st',r1.trans r',w⟩
  |ret p=>
   obtain⟨v,rfl,hv'⟩:=h1;exact⟨p,σ',hv',m',back st',r1.trans r',w⟩
 ·obtain⟨x,ρ',σ',fl,o0,m',st',r',ak',w⟩:=h;have fl0:Fly C env.frame x _ σ' s.heap s'.heap:=fl.from st1;exact sR ak'.stack ak'.frs hfr m' fl0 (λL' q=>by obtain rfl:=sj<|hfr.symm.trans q;rfl) (back st') λh' m2 fl2 st2=>⟨x,σ',fl2,m2,st2,r1.trans r',w⟩
end
end
section
open PySem.W PyProof.Rows
noncomputable abbrev bmV:List Jf:=[.type "ValueError",.type "Exception",.type "BaseException",.type "object"]
inductive IniAt(B:Ji)(K:Frag)(k:Jg)(names:List String):Prop
 |mk (bm:List Jf) (N:Jg) (nm q:Jq) (bs:List Jf) (sn:List Jq) (sub:List Jf) (ab:Bool) (col:Option Bool) (dd:Option Jg) (k0 k1 k2 k3 k5:Option Jf) (mN:Jq->Option Jf) (fI:Jg) (oI:Jp) (fd:Jr) (body:List Jo)
  (hC:B.get? k=Ja (JE nm q k N bs bm Jc sn sub ab col dd k0 k1 k2 k3 k5 "ValueError.__new__")) (hN:B.Ns N mN) (hi:mN "__init__"=Ja (.ref fI)) (T:J0 B bmE bm) (ho:B.get? fI=Ja oI) (hfc:oI.cls= .type "function") (hd:oI.data= .func fd)
  (cd:B.CodeRec fd.code fd.qualname) (hb:fd.body= .stmts body) (clo:fd.closure=[]) (bind:∀vals:List Jf,vals.length=names.length+1->YY fd ⟨vals,[]⟩=pure ((("self"::names).map Qb).zip vals))
  (par:∀x∈"self"::names,fd.scope.names.lookup (Qb x)=Ja .local/\(Qb x==("__debug__":Jq))=Jd) (nd:("self"::names).Nodup) (co:fd.scope.isCoroutine=Jd) (gen:fd.scope.isGenerator=Jd) (kind:fd.scope.kind= .function)
  (mat:mIni fd.scope names body=Jc) (sa:findIn K (.ref k) "__setattr__"=Ja (Ja<|.builtin "object.__setattr__")) (len:names≠ []/\names.length<=50):IniAt B K k names
structure InstK(C:Cx)(G:Gx)(k:Jg):Prop where
 ga:findIn C.K (.ref k) "__getattribute__"=Ja (Ja<|.builtin "object.__getattribute__")
 gh:findIn C.K (.ref k) "__getattr__"=Ja Jb
 dct:hasDictIn C.K k=Jc
 fl:∀f∈G.flds "Bounds",findIn C.K (.ref k) (Qb f)=Ja Jb
 me:∀f v,bQ f=Jd->C.fv f=Ja v->∃a,A4 (v= .ref a) (findIn C.K (.ref k) (Qb<|mOf f)=Ja (Ja<|.ref a)) (typeIn C.K (.ref a)=Ja (.type "function")) (∀x∈C.flds "Bounds",Qb (mOf f)≠Qb x)
structure ExcOK(C:Cx)(G:Gx)(mg mb:Jq->Option Jf):Prop where
 kin:Frag.In C.K C.B
 cls:∀c k,C.cls c=Ja k->mg (Qb c)=Ja (.ref k)
 has:∀c,G.cs.contains c=Jc->∃k,C.cls c=Ja k
 hasM:∀c,G.mks.contains c=Jc->∃k,C.cls c=Ja k
 sub:∀c k d kd,C.cls c=Ja k->C.cls d=Ja kd->exmOne C.K (.ref k) (.ref kd)=Ja (G.sub c d)
 fl:∀c,G.flds c=C.flds c
 flm:∀c,G.mks.contains c=Jc->G.flds c=[]
 fld:∀c k f,C.cls c=Ja k->f∈G.flds c->findIn C.K (.ref k) (Qb f)=Ja Jb
 ini:∀c,G.inis.contains c=Jc->∃k,C.cls c=Ja k/\IniAt C.B C.K k (G.flds c)
 make:∀c k,C.cls c=Ja k->G.mks.contains c=Jc->OwnCls (Qb c) k bmV "ValueError.__new__" mg C.B
 ins:∀k,C.icl=Ja k->InstK C G k
theorem ExcOK.un{C:Cx}{G:Gx}{mg mb:Jq->Option Jf}(X:ExcOK C G mg mb):ExcOK C.un G.un mg mb:=⟨X.kin,X.cls,X.has,X.hasM,X.sub,X.fl,X.flm,X.fld,X.ini,X.make,λk h=>⟨(X.ins k h).ga,(X.ins k h).gh,(X.ins k h).dct,(X.ins k h).fl,(X.ins k h).me⟩⟩
section
variable{C:Cx}{G:Gx}{mg mb:Jq->Option Jf}{n:Nat}{A:Jj}{Er:Jf->Je->Prop}{env:Js}{ρ:Rho}{σ:PH}{s:Je}
theorem _root_.PySem.W.InstAt.keeps{h S:Ji}{x D:Jg}{d:Option Jp}(I:InstAt h x j D d)(k:∀b o,h.get? b=Ja o->S.get? b=Ja o):InstAt S x j D d:=by
 refine⟨k _ _ I.at_,I.cls,I.no,?_⟩;have:=I.dict;cases N:j.dict<;>rcases d with⟨⟩<;>rw[N] at this<;>first|exact this|exact k _ _ this
theorem qM(r:VR C σ h p v):handedOut v=pure v:=by
 induction p using PV.casesOn with
 |none=>cases (show v= .none from r);rfl
 |bool b=>cases (show v= .bool b from r);rfl
 |int i=>obtain⟨t,rfl⟩:=r;rfl
 |str i=>obtain⟨t,rfl⟩:=r;rfl
 |tup l=>obtain⟨a,n,w,rfl,o0⟩:=r;rfl
 |ref a=>cases (show v= .ref a from r);rfl
 |scr l=>obtain⟨a,o,n,w,rfl,o0⟩:=r;rfl
theorem v5{c:String}{l:List PV}{o:Jp}{h:Ji}{j:Nat}{f:String}{p:PV}(r:FD C σ h c l o)(N:(C.flds c)[j]? =Ja f)(Y:l[j]? =Ja p):∃v,lookIn (Qb f) o=Ja (Ja v)/\VR C σ h p v:=by
 obtain⟨U,H,e,k,v,o0⟩:=r;obtain⟨u,a,b⟩:=v j f p N Y;refine⟨u,?_,b⟩;unfold nsFind findBy at a;rw[<-Array.find?_toList] at a;obtain⟨d,q,Z⟩:=Qs.mp a;unfold lookIn;rw[e];show(match U.toList.find? (·.key.isStr (Qb f)) with
   |some e=>Ja<|Ja e.val
   |none=>if U.toList.any (·.refKey) then Jb else Ja Jb)=_
 rw[q,<-Z]
theorem vD(h:pfd G f o=Ja u):X3 λc l j=>A3 (o=Ja (.fd c l)) ((G.flds c).idxOf? f=Ja j) (l[j]? =Ja u):=by
 induction o with
 |none=>exact onx h
 |some P=>
  induction P with
  |fd c l=>
   obtain⟨j,J,w⟩:=Qn.mp (show((G.flds c).idxOf? f).bind (λj=>l[j]?)=Ja u from h);exact⟨c,l,j,rfl,J,w⟩
  |_=>exact onx h
theorem t4(h:pattr G σ f v=Ja u):X2 λb d=>A3 (v= .ref b) (σ b=Ja (.inst d)) (pfd G f (σ d)=Ja u):=by
 induction v using PV.casesOn with
 |ref b=>
  replace h:pfld G σ f (σ b)=Ja u:=h
  induction e:σ b with
  |none=>rw[e] at h;exact onx h
  |some o=>
   rw[e] at h
   induction o with
   |inst d=>exact⟨b,d,rfl,e,h⟩
   |_=>exact onx h
 |_=>exact onx h
theorem sz{K:Frag}{D:Jg}{o:Jp}{f:Jq}{v:Jf}(h:hasDictIn K D=Jc)(i:findIn K (.ref D) f=Ja Jb)(l:lookIn f o=Ja (Ja v)):findObj K D (Ja o) f=Ja (.value v):=by
 obtain⟨I,c,d⟩:=any_some h;unfold findObj;rw[c,KO,i,KO,KO,KO];show(W.ownOf I (Ja o) f).bind _=_;unfold W.ownOf;rw[Y8 d];show(lookIn f o).bind _=_;rw[l];rfl
theorem ve{l:List String}(h:l.idxOf? f=Ja j):l[j]? =Ja f:=by
 obtain⟨T,e⟩:=List.idxOf?_eq_some_iff.mp h;rw[Qf T];exact Ub Ja e.1
theorem rh{E:Jf->Je->Prop}{Q:Jf->Je->Prop}{s:Je}{K:Frag}{x D:Jg}(a:findIn K (.ref D) "__getattribute__"=Ja (Ja (.builtin "object.__getattribute__")))
  (j:findObj K D o f=Ja (.value v))(hv:handedOut v=pure v)(X:K.In s.heap)(I:InstAt s.heap x V D o)(h:Q v {s with toks:=s.toks+1}):Jh (Jt prog w) A (getAttr (.ref x) f Jc) Q E s:=by
 refine get_open X I a ?_;obtain⟨H,g,d,t,m⟩:=s;refine YG<|YH (YG<|(I.type (M:=Jt prog w)).at (YG<|(looks_find (M:=Jt prog w) X I j).at ?_));refine YH ?_;show Jh _ _ (handedOut v) _ _ _;rw[hv];exact YH h
theorem rl{o:Jp}(h:∀c,o.data≠ .cls c):notCls o=Jc:=by
 obtain⟨a,b,d,e⟩:=o
 rcases d with⟨⟩<;>first|rfl|exact absurd rfl<|h _
theorem qT(X:ExcOK C G mg mb){sc:Jk}{x f:String}{q p:Pos}(N:isLoc sc (Qb x)=Jc)(Y:bu (Qb x)=Jc):EvOK C G n sc (.attr x f) (.Attribute (.Name (Qb x) q) (Qb f) p):=λ{env ρ A l σ s Q M} R w=>by
 have m:=R.m;obtain⟨v,hx,w⟩:=i9 (show oV (λv=>oV (λu=>Q u σ)<|pattr G σ f v) (ρ.get x) from w);obtain⟨u,O,U⟩:=i9 w;obtain⟨b,d,rfl,T,t⟩:=t4 O;obtain⟨c,i,j,e,J,z⟩:=vD t;obtain⟨o,g,r⟩:=m.objs _ _ e;have H:(G.flds c)[j]? =Ja f:=ve J;obtain⟨v,h,hv⟩:=v5 r ((X.fl c)▸H) z;rw[arm_eval_Attribute];show Jh (Mo C) A (Jw (.Name (Qb x) q) env>>=_) _ _ s;refine YG (ke R.ev (jx R.sr N) Y hx λZ F=> ?_);rw[show Z= .ref b from F];refine YG<|YK (YG<|YJ ?_);obtain⟨W,S,k,P,y,B,V,E,D⟩:=m.objs _ _ T;rw[e] at D;cases D;have I:InstAt s.heap b W k (Ja o):=⟨S,y,rl B,by rw[V];exact g⟩
 have K:=X.ins k P;exact rh K.ga (sz K.dct (K.fl f<|QJ H) h) (qM hv) (X.kin.keeps m.base) I<|YG (wpAny_of_eq (a:=()) rfl<|YH (VP.here m rfl ⟨rfl,rfl⟩ hv U))
theorem getM{E:Jf->Je->Prop}{h:Ji}{K:Frag}{x k d a:Jg}{o:Jp}{pl:Sem Bool}{mm:Jq->Option Jf}{Q:Jf×List Jf->Je->Prop}(X:K.In h)(hx:h.get? x=Ja o)(Z:o.cls= .ref k)(O:o.dict=Ja d)(L:h.Ns d mm)(hsh:mm name=Jb)
  (I:findIn K (.ref k) "__getattribute__"=Ja (Ja<|.builtin "object.__getattribute__"))(V:findIn K (.ref k) "__getattr__"=Ja Jb)(f:findIn K (.ref k) name=Ja (Ja<|.ref a))(W:typeIn K (.ref a)=Ja (.type "function"))(q:Q (.ref a,[.ref x]) ⟨h,g,r,t,m⟩):
  Jh (Jt prog w) A (getMethod (.ref x) name pl) Q E ⟨h,g,r,t,m⟩:=by
 have c:=F.canon_object_ga;have U:=looks_findIn (M:=Jt prog w) X I;have z:=looks_findIn (M:=Jt prog w) X V;have R:=looks_findIn (M:=Jt prog w) X f;have p:=looks_typeIn (M:=Jt prog w) X W;unfold getMethod specialOf;have J:Looks (Jt prog w) h (typeOf<|.ref x) (.ref k):=Z▸(Looks.ld hx).andThen .now;refine YG<|YG (J.at<|U.at ?_);simp only[c,WG,if_false];refine YG<|YG (J.at<|z.at ?_);refine wn QF ?_;refine YG<|YG (J.at<|R.at ?_);dsimp only;refine YG<|p.at ?_;refine wn (by decide) ?_;refine YG<|wpAny_loadPart_at hx ?_;rw[O];refine YG<|wpAny_nsGet L ?_;rw[hsh];refine wn QF ?_;exact YG<|wpAny_rule (YH q)
end
end
section
open PySem.W PyProof.Rows
section
variable{C:Cx}{G:Gx}{mg mb:Jq->Option Jf}{n:Nat}
theorem qC{E:Jf->Je->Prop}{a pos:Pos}{args:List Jl}{Q:Jf->Je->Prop}(O:attributeBase o name env (Jw o env)=Jw o env)
  (f:methodCallForm (args.length+([]:List Keyword).length) (JW pos<|starEach args env) (backToKw pos<|keywordEach [] env)=Jc)(l:(a.endLine==pos.line)=Jc)
  (h:Jh (Jt prog w) A (Jw o env) (λv s₁=>∀pl:Sem Bool,Jh (Jt prog w) A (getMethod v name pl) (λr b=>Jh (Jt prog w) A (callWith pos r.1 r.2 (JW pos<|starEach args env)<|backToKw pos (J1 [] env)) Q E b) E s₁) E s):
  Jh (Jt prog w) A (Jw (.Call (.Attribute o name a) args [] pos) env) Q E s:=by
 rw[arm_eval_Call,O];refine YG (YI h (λv s₁ V=> ?_) λo0 o0 e=>e);refine YG<|YK ?_;have p:methodCallPos Jc o env a pos=pure pos:=by unfold methodCallPos;simp[l]
 unfold methodCall;rw[f];refine YG<|YJ (YI (V _) (λr b q=> ?_) λo0 o0 e=>e);exact YG<|wpAny_of_eq p q
theorem rE{as:List Jl}(h:dw as=Jc)(l:as.length<=20):methodCallForm (as.length+([]:List Keyword).length) (JW pos (JD as env)) (backToKw pos (J1 [] env))=Jc:=by
 have s:=il (pos:=pos) (env:=env) h;show((JW pos<|starEach as env).all (λx=> !x.1)&&Jc&&decide (as.length+0+0<30))=Jc;rw[<-List.not_any_eq_all_not,s,Y4 (show as.length+0+0<30 from zb1 l rfl)];rfl
theorem oN(g:GOK C G mg mb)(X:ExcOK C G mg mb){args:List E}{as:List Jl}{p q:Pos}(L:EvOK C G n sc o y)(K:em y=Jc)(h5:(p.endLine==q.line)=Jc)(J:Evs C G n sc args as)(h4:as.length<=20)(W:bQ f=Jd):EvOK C G n sc (.mcall f o args) (.Call (.Attribute y (Qb (mOf f)) p) as [] q):=λ{Y ρ A l σ s Q X'} I w=>by
 obtain⟨v,hv,kp⟩:=g.fn f w.1;refine qC (lM K) (rE J.plain h4) h5 ?_;refine EOK.then (L I w.2) λH s1 p1 N h m t r Z=> ?_;obtain⟨b,d,rfl,i⟩:=uH Z.1;rw[show H= .ref b from h];obtain⟨ob,R,k,P,k2,k3,k5,fs,k7⟩:=m.objs _ _ i;obtain⟨od,g2,j,ep,hd,c,o0,u⟩:=m.objs _ _ k7;obtain⟨a,rfl,f1,f2,f3⟩:=(X.ins k P).me f v W hv;intro pl;obtain⟨hh,gg,dr,tk,os⟩:=s1;refine getM (X.kin.keeps m.base) R k2 k5 (mm:=λz=>nsFind j z) ⟨od,j,ep,g2,hd,c,λo0=>rfl⟩ (u _ f3) (X.ins k P).ga (X.ins k P).gh f1 f2 ?_;refine cW (first:=[.ref b]) kp J.plain ?_;refine YI (jq J (I.step t m) Z.2) (λD S T=> ?_) λo0 o0 x=>XP.from t r x;obtain⟨ps,O,U,F,V,M,hn,w2⟩:=T;obtain⟨v',e,o0,B⟩:=w2;obtain rfl:=sj<|hv.symm.trans e;exact⟨F.base,YI (B A l S (.ref b::D) ((I.ak.step t).step V) F ⟨.ref b,D,rfl,rfl,U⟩) (λo0 o0 x=>VP.from t r<|VP.from V M x) λo0 o0 x=>XP.from t r<|XP.from V M x⟩
end
end
section
open PySem.W PyProof.Rows
section
variable{C:Cx}{G:Gx}{mg mb:Jq->Option Jf}{n:Nat}{A:Jj}{env:Js}{ρ:Rho}{σ:PH}{s:Je}{l:List Js}
theorem c4{h:Ji}(m:Sim C σ h)(n:h.get? e=Jb):C.B.get? e=Jb/\σ e=Jb:=by
 constructor
 ·induction q:C.B.get? e with
  |none=>rfl
  |some o=>exact ns<|n.symm.trans (m.base e o q)
 ·induction q:σ e with
  |none=>rfl
  |some o=>obtain⟨b,z,o0⟩:=m.objs e o q;exact ns<|n.symm.trans z
inductive ExCls(h:Ji)(k:Jg):Prop
 |mk (nm q:Jq) (N:Jg) (bs bm:List Jf) (hdct:Bool) (sn:List Jq) (sub:List Jf) (ab:Bool) (col:Option Bool) (dd:Option Jg) (k0 k1 k2 k3 k5:Option Jf) (newId:String) (hC:h.get? k=Ja (JE nm q k N bs bm hdct sn sub ab col dd k0 k1 k2 k3 k5 newId)) (hb:bm.contains (.type "BaseException")=Jc):ExCls h k
theorem ExCls.keeps{h S:Ji}(x:ExCls h k)(kp:∀b o,h.get? b=Ja o->S.get? b=Ja o):ExCls S k:=by
 obtain⟨nm,q,N,bs,m,d,sn,sub,a,c,U,W,P,X,F,O,e,M,R⟩:=x;exact⟨nm,q,N,bs,m,d,sn,sub,a,c,U,W,P,X,F,O,e,kp _ _ M,R⟩
theorem ExCls.kp(x:ExCls C.B k):Kp C (.ref k):=by
 obtain⟨nm,B,N,bs,m,h,sn,sub,a,c,d,S,P,U,F,O,e,M,b⟩:=x;exact⟨.machine,.inr<|.inl rfl,λA Q E s kp q=>wpAny_keeperOf_exc (kp _ _ M) q⟩
inductive RP(k:Jg)(E:Jf->Je->Prop)(v:Jf)(s:Je):Prop
 |mk (e t:Jg) (dx:Option Jg) (hv:v= .ref e) (x:ExCls s.heap k) (he:s.heap.get? e=Ja {cls:= .ref k,dict:=dx,data:= .fields #[.ref t,.none,.none,.none,.bool Jd,.none]}) (hE:E (.ref e) s):RP k E v s
theorem n5{E:Jf->Je->Prop}{Q:Flow->Je->Prop}(U:A.handled=Jb)(h:Jh M A x (RP k E) E s):
  Jh M A (raiseStmt env (Ja x) Jb) Q E s:=by
 unfold raiseStmt;refine YG (YI h (λv m V=> ?_) λo0 o0 x=>x);obtain⟨e,t,u,rfl,x,O,I⟩:=V;obtain⟨nm,q,N,bs,Z,y,sn,sub,a,o,f,S,P,X,F,T,w,i,b⟩:=x;have c:(Value.ref k::Z).contains (.type "BaseException")=Jc:=by rw[KY,b,Bool.or_true]
 obtain⟨p,g,d,tk,R⟩:=m
 repeat (first|with_reducible refine Jy O ?_|with_reducible refine Jy i ?_|(with_reducible refine YU i ?_;rw[c])|wp_step)
 exact wpAny_raiseNew_none U I
theorem rZ{E:Jf->Je->Prop}{Q:Flow->Je->Prop}(U:A.handled=Jb)(h:Jh M A (Jw e env) (RP k E) E s):Jh M A (exec (.Raise (Ja e) Jb pos) env) Q E s:=by
 rw[arm_exec_Raise];exact YG<|YK (n5 U<|YG (YI h (λv p B=>YG<|YK (YH B)) λo0 o0 x=>x))
inductive RM(C:Cx)(c:String)(k:Jg)(ps:List PV)(σ:PH)(h₀:Ji)(s:Je)(v:Jf)(s':Je):Prop
 |mk (e t:Jg) (dx:Option Jg) (hv:v= .ref e) (new:s.heap.get? e=Option.none) (go:s'.heap.get? e=Ja {cls:= .ref k,dict:=dx,data:= .fields #[.ref t,.none,.none,.none,.bool Jd,.none]})
  (keep:∀b o,s.heap.get? b=Ja o->s'.heap.get? b=Ja o) (rest:Rest s s') (ff:FF C ⟨c,ps⟩ σ h₀ s'.heap dx):RM C c k ps σ h₀ s v s'
theorem RM.raise{ps:List PV}{s₁ j:Je}(r:RM C c k ps σ1 s.heap s₁ v j)(x:ExCls C.B k)(h:C.cls c=Ja k)(m:Sim C σ1 s₁.heap)(P:Step none1 σ s.heap σ1 s₁.heap)(B:Rest s s₁)(W:EnvR C env ρ σ s.heap)(a:AOK C n A l σ s.heap)(w:X ⟨c,ps⟩ ρ σ1):RP k (SX C n A l env σ s X) v j:=by
 obtain⟨e,t,d,rfl,new,g,keep,y,f⟩:=r;have V:Step none1 σ s.heap σ1 j.heap:=P.trans<|.more keep;exact⟨e,t,d,rfl,x.keeps λb o q=>keep b o<|m.base b o q,g,⟨c,ps⟩,ρ,σ1,⟨e,_,_,k,rfl,(c4 m new).1,(c4 m new).2,P.live e new,g,h,rfl,rfl,rfl,.inl rfl,f⟩,W.step V,m.more keep,V.own,B.trans y,a.step V,w⟩
def MkOK(C:Cx)(G:Gx)(n:Nat)(c:String)(k:Jg)(N:Nat):Prop:=∀ (A:Jj) (l:List Js) (σ T:PH) (s m:Je) (ps:List PV) (v:List Jf) (E:Jf->Je->Prop),AOK C n A l σ s.heap->VRs C T m.heap ps v->Sim C T m.heap->Step none1 σ s.heap T m.heap->ps.length=N->v.length<=JJ->
 Jh (Mo C) A (call (.ref k) v) (RM C c k (ps.take (G.flds c).length) T s.heap m) E m
theorem lc(g:GOK C G mg mb)(X:ExcOK C G mg mb)(h:C.calm){args:List E}(M:C.cls c=Ja k)(x:ExCls C.B k)(mk:MkOK C G n c k args.length){sc:Jk}{as:List Jl}{py p q:Pos}(B:sc.names.lookup (Qb c)=Ja .globalImplicit)(W:bu (Qb c)=Jc)(H:as.length<=20)(a:Evs C G n sc args as):
  StK C G n sc (.raise c args) (.Raise (Ja<|.Call (.Name (Qb c) py) as [] p) Jb q):=λ{env ρ A l σ s Q F} I w=>by
 refine rZ (k:=k) (I.ak.calm h) ?_;rw[dg];refine YG<|gV g I.ev I.m (I.sr.glob _ B) W (X.cls c k M) (cW (first:=[]) x.kp a.plain ?_);refine YI (jq a I.toAt w.2) (λJ D T=> ?_) λo0 o0 x=>XP.stmt I.ev I.ak x;obtain⟨ps,O,hv,m,t,f,o,w⟩:=T;have V:J.length<=JJ:=by rw[hv.length,o,<-a.length];exact Qq H<|by decide
 exact⟨m.base,YI (mk _ _ _ _ _ _ _ _ _ I.ak hv m t o V) (λv R r=>r.raise x M m t f I.ev I.ak w) λo0 o0 x=>x⟩
theorem mD(g:GOK C G mg mb)(X:ExcOK C G mg mb)(a:C.calm){args:List E}(w:G.mks.contains c=Jc){sc:Jk}{as:List Jl}{py p q:Pos}(B:sc.names.lookup (Qb c)=Ja .globalImplicit)(K:bu (Qb c)=Jc)(J:as.length<=20)(y:Evs C G n sc args as):StK C G n sc (.raise c args) (.Raise (Ja (.Call (.Name (Qb c) py) as [] p)) Jb q):=by
 obtain⟨k,M⟩:=X.hasM c w;obtain⟨D,N,nm,z,bs,h,sn,sub,b,o,U,v,P,Y,F,S,u,d,W,i,T⟩:=(X.make c k M w).obj;refine lc g X a M ⟨nm,z,N,bs,D,h,sn,sub,b,o,U,v,P,Y,F,S,_,d,T.hasType<|by decide+kernel⟩ ?_ B K J y;intro A l σ O s Z ps f E x hv m H I r;refine wpAny_call_exc_subT (hrest:=r) PySem.F.excBase_ValueError (T.keeps m.base) (m.base _ _ d) (W.keeps m.base) i λR e hx=> ?_;obtain⟨t,L,j,Q⟩:=hx.there;exact⟨e,t,_,rfl,hx.new,L,hx.keeps,⟨rfl,rfl⟩,.no (by rw[X.flm c w];rfl) rfl⟩
end
end
section
open PySem.W PyProof.Rows
theorem sq(h:mIni sc [] b=Jc):b=[]:=by
 induction b using List.casesOn with
 |nil=>rfl
 |cons=>exact ft h
theorem qG(h:mIni sc (x::xs) b=Jc):
  X5 λo U J B r=>b= .Assign [.Attribute (.Name (Qb "self") o) (Qb x) U] (.Name (Qb x) J) B::r/\mIni sc xs r=Jc:=by
 induction b using List.casesOn with
 |nil=>exact ft h
 |cons y T=>
  obtain⟨D,Y⟩:=and2 (show(kAsg (hAttr x<|hName (isLoc sc) "self") (hName (isLoc sc) x) y&&mIni sc xs T)=Jc from h);refine nI (P:=λy=>X5 λo U J B r=>y::T= .Assign [.Attribute (.Name (Qb "self") o) (Qb x) U] (.Name (Qb x) J) B::r/\mIni sc xs r=Jc) D λt v s H O=> ?_;refine vK (P:=λt=>X5 λo U J B r=> .Assign [t] v s::T= .Assign [.Attribute (.Name (Qb "self") o) (Qb x) U] (.Name (Qb x) J) B::r/\mIni sc xs r=Jc) H λz p n o0 o0=> ?_;refine hW (P:=λz=>X5 λo U J B r=> .Assign [.Attribute z (Qb x) p] v s::T= .Assign [.Attribute (.Name (Qb "self") o) (Qb x) U] (.Name (Qb x) J) B::r/\mIni sc xs r=Jc) n λq o0 o0=> ?_;exact hW (P:=λv=>X5 λo U J B r=> .Assign [.Attribute (.Name (Qb "self") q) (Qb x) p] v s::T= .Assign [.Attribute (.Name (Qb "self") o) (Qb x) U] (.Name (Qb x) J) B::r/\mIni sc xs r=Jc) O λZ o0 o0=>⟨_,_,_,_,_,rfl,Y⟩
noncomputable def addF(m:Jq->Option Jf)(names:List String)(v:Jq->Option Jf):Jq->Option Jf:=names.foldl (λa x=>λy=>if y=Qb x then m (Qb x) else a y) v
theorem ji(m:Jq->Option Jf)(x:String)(xs:List String)(v:Jq->Option Jf):addF m (x::xs) v=addF m xs (λy=>if y=Qb x then m (Qb x) else v y):=rfl
theorem nJ(m:Jq->Option Jf):∀ (names:List String) (v:Jq->Option Jf) (y:Jq),(y∈names.map Qb\/v y=m y)->addF m names v y=m y
 |[]=>λv y h=>by rcases h with h|h;cases h;exact h
 |x::s=>λv y h=>by
  rw[ji];refine nJ m s _ y ?_;by_cases e:y=Qb x
  ·exact .inr<|by rw[Y8 e,e]
  ·refine h.imp (λh=> ?_) λh=>by rw[Y7 e];exact h
   rcases QB.mp h with h|h
   ·exact absurd h e
   ·exact h
theorem qi(m:Jq->Option Jf):∀ (names:List String) (v:Jq->Option Jf) (y:Jq),(∀f∈names,y≠Qb f)->v y=Jb->addF m names v y=Jb
 |[]=>λv y o0 h=>h
 |x::s=>λv y q h=>by
  rw[ji];refine qi m s _ y (λf j=>q f<|.tail _ j) ?_;rw[Y7 (q x<|.head _)];exact h
section
variable{prog:Jn}{w:Jm}{A:Jj}{E:Jf->Je->Prop}
variable{nm q:Jq}{C N x:Jg}{bs bm:List Jf}{sn:List Jq}{sub:List Jf}{ab:Bool}{col:Option Bool}{dd:Option Jg}{k0 k1 k2 k3 k5:Option Jf}{newId:String}
structure Made(h₀:Ji)(e C:Jg)(vs:Array Jf)(mA:Jq->Option Jf)(h:Ji):Prop where
 keep:∀b o,b≠e->h₀.get? b=Ja o->h.get? b=Ja o
 inst:h.Inst e C mA
 obj:∃dx,h.get? e=Ja {cls:= .ref C,dict:=dx,data:= .fields vs,slots:= #[]}
 own:∀o dx,h.get? e=Ja o->o.dict=Ja dx->h₀.get? dx=Jb
theorem ni{env:Js}{m:Jq->Option Jf}{h₀ B:Ji}(j:env.scope.kind= .function)(O:env.kindOf (Qb "self")=Ja .local)(R:env.locals=L)(hs:m (Qb "self")=Ja (.ref e))
  (n:h₀.Ns L m)(X:L≠e)(T:J0 B bmE bm)(hC:B.get? C=Ja (JE nm q C N bs bm Jc sn sub ab col dd k0 k1 k2 k3 k5 newId))
  (P:Looks (Jt prog w) B (JY (.ref C) "__setattr__") (Ja<|.builtin "object.__setattr__"))(c:∀b o,B.get? b=Ja o->b≠e/\h₀.get? b=Ja o){Q:Flow->Je->Prop}:
  ∀ (names:List String) (body:List Jo) (K:Jq->Option Jf) (ns:List Jq) (s:Je),mIni sc names body=Jc->Made h₀ e C vs K s.heap->Within K ns->ns.length+names.length<=100->
   (∀x∈names,env.kindOf (Qb x)=Ja .local/\(∃v,m (Qb x)=Ja v)/\((Qb x==("__debug__":Jq))=Jd)/\Looks (Jt prog w) B (JY (.ref C)<|Qb x) Jb)->
   (∀W tk,Made h₀ e C vs (addF m names K) W->Q .next {s with heap:=W,toks:=tk})->Jh (Jt prog w) A (execs body env) Q E s
 |[]=>λbody K ns s i M I J hx k=>by
  rw[sq i];exact JK<|k s.heap s.toks M
 |x::xs=>λbody K ns s i M I J hx k=>by
  obtain⟨p1,p2,p3,p4,r,rfl,G⟩:=qG i;obtain⟨x1,⟨v,x2⟩,x3,x4⟩:=hx x<|.head _;have hn:=n.at' λo Z=>M.keep L o X Z;refine J3<|plainObj_wpAny_Assign_Attribute ?_ ?_
  ·refine J4 (YR j x1 (R▸hn) x2 ?_) x3;refine J4 (YR j O (R▸hn) hs ?_) (by decide+kernel);obtain⟨h,g,d,tk,os⟩:=s;have p:∀b o,B.get? b=Ja o->h.get? b=Ja o:=λb o Z=>M.keep b o (c b o Z).1 (c b o Z).2;refine qP (ns:=ns) (T.keeps p) (p _ _ hC) (x4.keeps p) (P.keeps p) M.inst (λW D S=> ?_) I (by rw[JU];exact zle (KP _ _)<|zb2 J rfl);refine ni (vs:=vs) j O R hs n X T hC P c xs r (λy=>if y=Qb x then Ja v else K y) (Qb x::ns) {heap:=W,gens:=g,drawn:=d,toks:=D,os:=os} G ?_ (Within.cons _ v I) (by simp only[KW] at J ⊢;exact zle (Kd<|QQ _ _ _) J) (λy hy=>hx y<|.tail _ hy) (λu t M'=> ?_)
   ·refine⟨λb o a Z=>S.keep b o a (λU l f F q=> ?_)<|M.keep b o a Z,S.inst,?_,λo l Z ed=> ?_⟩
    ·subst q;rw[M.own U _ f F] at Z;cases Z
    ·obtain⟨d0,h0⟩:=M.obj;obtain⟨⟨c1,d1,ac,aa⟩,f,F,e3,V,o0⟩:=S.obj _ h0;refine⟨d1,?_⟩;rw[f];simp only at F e3 V;rw[F,e3,V]
    ·obtain⟨o',Y,o0⟩:=M.inst
     rcases S.fresh o l Z ed with q|⟨U,q1,q2⟩
     ·induction z:h₀.get? l with
      |none=>rfl
      |some oz=>
       by_cases H:l=e
       ·subst H;rw[Y] at q;cases q
       ·rw[M.keep l oz H z] at q;cases q
     ·exact M.own U l q1 q2
   ·rw[ji,x2] at k;exact k u t M'
  ·rfl
theorem kN{h:Ji}{d:Drawn}(T:J0 h bmE bm){m:Jq->Option Jf}{rest:List Jf}{V:Jp}{Q:Fin->Je->Prop}
  (M:h.get? C=Ja (JE nm q C N bs bm y sn sub ab col dd k0 k1 k2 k3 k5 "ValueError.__new__"))(B:h.Ns N m)(hi:m "__init__"=Ja (.ref f))(I:h.get? f=Ja V)(k:V.cls= .type "function")
  (z:∀S e,Heap.MadeExcOf h S e (.ref C) rest->Jh (Jt prog w) A (call (.ref f) (.ref e::rest)) (λr s'=>r= .none/\Q (.done<|.ret (.ref e)) s') E ⟨S,g,d,t,s⟩)(hrest:rest.length<=JJ):
  Jh (Jt prog w) A (Builtin.«type.__call__» ⟨.ref C::rest,[]⟩) Q E ⟨h,g,d,t,s⟩:=by
 have F:=PySem.F.excBase_ValueError
 repeat (first|with_reducible refine Jy M ?_|with_reducible refine wpAny_madeBy_exc M ?_|wp_step)
 refine codeAny_call_builtin_code (Code.quiet_builtin _ F.quiet) (wpAny_check_new_subT F T M ?_);refine codeAny_exc_new_subT F T M ?_ hrest;show Jh _ _ _ _ _ _;have kp:∀b o,h.get? b=Ja o->((h.push {cls:= .type "tuple",data:= .seq rest.toArray}).push {cls:= .ref C,data:= .fields #[.ref h.objs.size,.none,.none,.none,.bool Jd,.none]}).get? b=Ja o:=λb o e=>Qm _ (Qm _ e);have l:=kp _ _ M;have c:((h.push {cls:= .type "tuple",data:= .seq rest.toArray}).push
   {cls:= .ref C,data:= .fields #[.ref h.objs.size,.none,.none,.none,.bool Jd,.none]}).get? (h.objs.size+1)=Ja
   {cls:= .ref C,data:= .fields #[.ref h.objs.size,.none,.none,.none,.bool Jd,.none]}:=by heap_get
 have i:(Value.ref C::bm).contains (.ref C)=Jc:=by simp
 unfold isInstance
 repeat (first|with_reducible refine Jy c ?_|(with_reducible refine YU l ?_;rw[i])|wp_step)
 show Jh _ _ (JY (.ref C) _) _ _ _;refine wpAny_typeLookup_tail l (B.keeps kp) (T.keeps kp) F.mroIs F.init.lookup ?_;rw[hi];refine YJ<|YG ?_;unfold bindSpecial;refine YG<|wpAny_typeOf (T:="function") ⟨_,kp _ _ I,k⟩ ?_;rw[Y8 (by decide)];refine YH<|YG (YI (z _ (h.objs.size+1) ⟨kp,Wb<|Wo _,h.objs.size,c,Wb<|Qz _,?_⟩) (λr s' n=> ?_) λo0 o0 x=>x)
 ·exact Qm _<|Heap.get?_push_at rfl rfl
 ·obtain⟨rfl,X⟩:=n
  wp_walk
  exact X
theorem t5{h:Ji}{d:Drawn}(T:J0 h bmE bm){m:Jq->Option Jf}{rest:List Jf}{V:Jp}{Q:Jf->Je->Prop}
  (M:h.get? C=Ja (JE nm q C N bs bm c sn sub ab col dd k0 k1 k2 k3 k5 "ValueError.__new__"))(n:h.Ns N m)(hi:m "__init__"=Ja (.ref f))(I:h.get? f=Ja V)(k:V.cls= .type "function")
  (z:∀S e,Heap.MadeExcOf h S e (.ref C) rest->
   Jh (Jt prog w) (A.under (.builtin "type.__call__" ⟨.ref C::rest,[]⟩)) (call (.ref f) (.ref e::rest)) (λr s'=>r= .none/\Q (.ref e) s') E ⟨S,g,d,t,o⟩)(hrest:rest.length<=JJ):
  Jh (Jt prog w) A (call (.ref C) rest) Q E ⟨h,g,d,t,o⟩:=by
 have B:=tc_lookup;have R:=tc_bind<|.ref C;have Y:(⟨h,g,d,t,o⟩:Je).TypeIs (.ref C) "type":=⟨_,M,rfl⟩
 refine wpAny_call<|codeAny_of_tree ?_;show Jh _ _ (callAny (.ref C) _) _ _ _
 repeat (any_goals (first|assumption|with_reducible refine Jy M ?_|wp_step))
 refine⟨rfl,?_⟩;refine codeAny_call_builtin_at (Code.quiet_builtin _<|by decide+kernel) entry_typeCall<|wpAny_check_type_call_sub M (kN T M n hi I k (λS e L=> ?_) hrest);exact z S e L
end
section
theorem lj{h S:Ji}(k:∀b o,h.get? b=Ja o->S.get? b=Ja o)(n:S.get? e=Jb):h.get? e=Jb:=by
 induction q:h.get? e with
 |none=>rfl
 |some o=>exact ns<|n.symm.trans (k e o q)
theorem wV{C:Cx}{H D Y:Ji}{fl:List String}{ps:List PV}{m:Jq->Option Jf}(j:fl=C.flds c)(U:fl≠ [])(T:ps.length=fl.length)(k:(g=Jb/\∀n,m n=Jb)\/∃d,g=Ja d/\d≠e/\Y.Ns1 d m)
  (L:∀ (i:Nat) f v,fl[i]? =Ja f->vs[i]? =Ja v->m (Qb f)=Ja v)(hv:VRs C σ1 D ps vs)(kp:∀p v,VR C σ1 D p v->VR C σ1 Y p v)(o:∀x,(∀f∈fl,x≠Qb f)->m x=Jb)(r:∀d,g=Ja d->A3 (C.B.get? d=Jb) (σ1 d=Jb) (H.get? d=Jb)):FF C ⟨c,ps⟩ σ1 H Y g:=by
 have K:ps≠ []:=λq=>U<|List.eq_nil_of_length_eq_zero (T.symm.trans<|congrArg Ys q)
 rcases k with⟨o0,b⟩|⟨d,rfl,o0,P,l,I,t,X,s,o0,S⟩
 ·exfalso;obtain⟨z,zs,rfl⟩:=WW U;obtain⟨p,Z,rfl⟩:=WW K;obtain⟨v,h,o0⟩:=hv.get 0 p rfl;exact ns<|(b _).symm.trans (L 0 z v rfl h)
 ·obtain⟨B,Q,G⟩:=r d rfl;refine .at_ K d P rfl B Q G t ⟨l,I,X,s,λi f p D Y=> ?_,λx q=>(S x).trans (o x λf R=>q f<|j▸R)⟩;obtain⟨v,h,a⟩:=hv.get i p Y;exact⟨v,(S _).trans (L i f v (j▸D) h),kp _ _ a⟩
theorem xz(h:a+n+2<L):a+1<L:=Kh (Kg (KP a n)<|by decide) h
theorem vS(q:n<=50):([]:List Jq).length+n<=100:=(WP n).symm▸Qq q (by decide)
theorem IniAt.ex{B:Ji}{K:Frag}{k:Jg}{names:List String}(x:IniAt B K k names):ExCls B k:=by
 obtain⟨bm,N,nm,q,bs,sn,sub,ab,col,dd,k0,k1,k2,k3,k5,m,I,o,f,b,h,a,i,T⟩:=x;exact⟨nm,q,N,bs,bm,Jc,sn,sub,ab,col,dd,k0,k1,k2,k3,k5,_,h,T.hasType<|by decide+kernel⟩
inductive IM(h₁:Ji)(e k:Jg)(names:List String)(vs:List Jf)(s₁ s₂:Je):Prop
 |mk (t:Jg) (dx:Option Jg) (mA:Jq->Option Jf) (go:s₂.heap.get? e=Ja {cls:= .ref k,dict:=dx,data:= .fields #[.ref t,.none,.none,.none,.bool Jd,.none]}) (keep:∀b o,b≠e->h₁.get? b=Ja o->s₂.heap.get? b=Ja o)
  (hdi:(dx=Option.none/\∀n,mA n=Option.none)\/∃d,dx=Ja d/\d≠e/\s₂.heap.Ns1 d mA) (own:∀d,dx=Ja d->h₁.get? d=Option.none) (hm:∀ (i:Nat) f v,names[i]? =Ja f->vs[i]? =Ja v->mA (Qb f)=Ja v) (ho:∀x,(∀f∈names,x≠Qb f)->mA x=Option.none) (rest:Rest s₁ s₂):IM h₁ e k names vs s₁ s₂
theorem IM.rm{C:Cx}{W:Ji}{s s₁ u l:Je}{names:List String}{ps:List PV}(i:IM W e k names vs u l)(R:Rest s₁ u)(kp:∀b o,s₁.heap.get? b=Ja o->W.get? b=Ja o)(new:s₁.heap.get? e=Jb)(m:Sim C σ1 s₁.heap)(P:Step none1 σ s.heap σ1 s₁.heap)(hv:VRs C σ1 s₁.heap ps vs)(f:names=C.flds c)(h:names≠ [])(T:ps.length=names.length):RM C c k (ps.take names.length) σ1 s.heap s₁ (.ref e) l:=by
 obtain⟨t,g,v,I,keep,G,own,L,a,y⟩:=i;have p:∀b o,s₁.heap.get? b=Ja o->l.heap.get? b=Ja o:=λb o q=>keep b o (λz=>ns<|new.symm.trans (z▸q))<|kp b o q;rw[Yr (Kd T)];refine⟨e,t,g,rfl,new,I,p,R.trans y,wV f h T G L hv (λo0 o0 r=>r.step<|Step.more (S:=none1) p) a λd q=> ?_⟩;have H:=lj kp<|own d q;exact⟨(c4 m H).1,(c4 m H).2,P.live _ H⟩
theorem t9{C:Cx}{A:Jj}{nm q:Jq}{bs bm:List Jf}{sn:List Jq}{sub:List Jf}{oI:Jp}{S:Jr}{names:List String}{vs:List Jf}{s:Je}{E:Jf->Je->Prop}
  (kB:∀b o,C.B.get? b=Ja o->b≠e/\s.heap.get? b=Ja o)(J:s.heap.get? e=Ja {cls:= .ref k,data:= .fields #[.ref t,.none,.none,.none,.bool Jd,.none]})(P:A.depth<JZ)(F:C.B.NoLimit)(V:vs.length=names.length)(j:Frag.In C.K C.B)(ak:∀f∈names,findIn C.K (.ref k) (Qb f)=Ja Jb)
  (hC:C.B.get? k=Ja (JE nm q k N bs bm Jc sn sub ab col dd k0 k1 k2 k3 k5 newId)) (T:J0 C.B bmE bm) (U:C.B.get? I=Ja oI) (af:oI.data= .func S) (ah:C.B.CodeRec S.code S.qualname) (al:S.body= .stmts body) (Z:S.closure=[]) (l:YY S ⟨.ref e::vs,[]⟩=pure ((("self"::names).map Qb).zip (.ref e::vs)))
  (h:∀x∈"self"::names,S.scope.names.lookup (Qb x)=Ja .local/\(Qb x==("__debug__":Jq))=Jd) (am:("self"::names).Nodup) (aj:S.scope.isCoroutine=Jd) (Q:S.scope.isGenerator=Jd) (O:S.scope.kind= .function)
  (c:mIni S.scope names body=Jc) (aa:findIn C.K (.ref k) "__setattr__"=Ja (Ja<|.builtin "object.__setattr__")) (u:names.length<=50):
  Jh (Mo C) A (call (.ref I) (.ref e::vs)) (λr s'=>r= .none/\IM s.heap e k names vs s s') E s:=by
 have p:∀b o,C.B.get? b=Ja o->s.heap.get? b=Ja o:=λb o q=>(kB b o q).2;refine wpAny_call<|codeAny_call_cells P (p _ _ U) af (F.keeps p) (ah.keeps p) al l Z (λx W=> ?_) (λm D=> ?_) aj Q O
 ·have ad:x.1∈("self"::names).map Qb:=(Kx (show(x.1,x.2)∈_ from W)).1;obtain⟨z,R,ez⟩:=Qi.mp ad;rw[<-ez];exact .inl (h z R).1
 generalize L:callEnvC S s.heap.objs.size I=n at D ⊢;have y:n.locals=s.heap.objs.size:=by rw[<-L];rfl
 have g:∀x,n.kindOf x=S.scope.names.lookup x:=λx=>by rw[<-L];rfl
 have ai:n.scope.kind= .function:=by rw[<-L];exact O
 have kp:∀b o,s.heap.get? b=Ja o->m.heap.get? b=Ja o:=D.toInCall.keep;have a:∀i z v,("self"::names)[i]? =Ja z->(Value.ref e::vs)[i]? =Ja v->bindL n.kindOf ((("self"::names).map Qb).zip (Value.ref e::vs)) (λo0=>Jb) (Qb z)=Ja v:=λi z v Y K=>
  ku _ _ _ i _ v (ck am) (by rw[Qu,Y];rfl) K (by rw[g];exact(h z<|QJ Y).1)
 have ac:n.locals≠e:=by rw[y];exact Yj<|QS J
 refine ni (sc:=S.scope) (vs:= #[.ref t,.none,.none,.none,.bool Jd,.none]) (h₀:=m.heap) (B:=C.B) (C:=k) (e:=e) ai (by rw[g];exact(h _<|.head _).1) rfl (a 0 "self" (.ref e) rfl rfl) D.toInCall.ns ac T hC (looks_findIn j aa) (λb o q=>⟨(kB b o q).1,kp b o (kB b o q).2⟩)
  names body (λo0=>Jb) [] m c ⟨λb o o0 eo=>eo,⟨_,kp _ _ J,rfl,(λcc q=>by cases q),.inl ⟨rfl,λo0=>rfl⟩⟩,⟨Jb,kp _ _ J⟩,λo dx eo ed=>by obtain rfl:=sj<|(kp _ _ J).symm.trans eo;exact ns ed⟩ Within.nil (vS u) (λz R=> ?_) (λK an M=> ?_)
 ·obtain⟨i,G,rfl⟩:=KT R;have ae:i<vs.length:=V.symm▸G;refine⟨by rw[g];exact(h _<|.tail _ R).1,⟨vs[i],a (i+1) _ _ (by rw[List.getElem?_cons_succ];exact Qf G)<|by rw[List.getElem?_cons_succ];exact Qf ae⟩,(h _<|.tail _ R).2,looks_findIn j<|ak _ R⟩
 ·obtain⟨dx,go⟩:=M.obj;obtain⟨ap,ao,H⟩:=D.toInCall.same;obtain⟨oi,gi,o0,o0,X⟩:=M.inst;obtain rfl:=sj<|go.symm.trans gi;exact⟨rfl,t,dx,_,go,λb o hb q=>M.keep b o hb<|kp b o q,X,λd q=>lj kp<|M.own _ d go q,λi f v Y K=>(nJ _ _ _ _<|.inl (Qi.mpr ⟨f,QJ Y,rfl⟩)).trans (a (i+1) f v Y K),λx q=>qi _ _ _ _ q rfl,⟨by rw[H],by rw[H]⟩⟩
theorem rr{C:Cx}{G:Gx}{U K:Jq->Option Jf}(g:GOK C G U K)(X:ExcOK C G U K)(z:C.calm){args:List E}(w3:G.inis.contains c=Jc)(w4:args.length=(G.flds c).length){sc:Jk}{as:List Jl}{py p q:Pos}(h5:sc.names.lookup (Qb c)=Ja .globalImplicit)(h6:bu (Qb c)=Jc)(h3:as.length<=20)(ha:Evs C G n sc args as):StK C G n sc (.raise c args) (.Raise (Ja (.Call (.Name (Qb c) py) as [] p)) Jb q):=by
 obtain⟨k,Y,I⟩:=X.ini c w3;refine lc g X z Y I.ex ?_ h5 h6 h3 ha;obtain⟨bm,N,nm,q',bs,sn,sub,ab,col,dd,k0,k1,k2,k3,k5,mN,fI,oI,fd,y,S,hN,hi,T,D,Z,J,W,R,u,d,a,O,M,Q,i,B,V,H⟩:=I;intro A l σ aa s j ps vs E ak hv m P L hl;have v:vs.length=(G.flds c).length:=(hv.length.trans L).trans w4;refine t5 (T.keeps m.base) (m.base _ _ S) (hN.keeps m.base) hi (m.base _ _ D) Z (λh' e hx=> ?_) hl;obtain⟨t,e1,o0,o0⟩:=hx.there;refine YI (t9 (e:=e) (λb o F=>⟨λq=>ns<|(c4 m hx.new).1.symm.trans (q▸F),hx.keeps b o<|m.base b o F⟩) e1 (xz ak.depth) g.nolimit v X.kin (λf hf=>X.fld c k _ Y hf) S T D J W R u (d _ (Ub (· +1) v)) a O M Q i B V H.2) (λr s2 h=>⟨h.1,h.2.rm ⟨rfl,rfl⟩ hx.keeps hx.new m P hv (X.fl c) H.1<|L.trans w4⟩) λo0 o0 x=>x
theorem oh{C:Cx}{m b:Jq->Option Jf}(g:GOK C G m b)(X:ExcOK C G m b)(a:C.calm){args:List E}{sc:Jk}{as:List Jl}{py p q:Pos}(B:sc.names.lookup (Qb c)=Ja .globalImplicit)(W:bu (Qb c)=Jc)(J:as.length<=20)(T:Evs C G n sc args as):StK C G n sc (.raise c args) (.Raise (Ja (.Call (.Name (Qb c) py) as [] p)) Jb q):=λI w=>by
 rcases w.1.2.2 with h|h
 ·exact mD g X a h B W J T I w
 ·exact rr g X a h.1 h.2 B W J T I w
end
end
section
open PySem.W PyProof.Rows
section
variable{C:Cx}{G:Gx}{mg mb:Jq->Option Jf}{n:Nat}{A:Jj}{Er:Jf->Je->Prop}{env:Js}{ρ:Rho}{σ:PH}{s:Je}{l:List Js}
theorem qO{g W:Jp}{Q:Unit->Je->Prop}(O:s.heap.get? a=Ja g)(v:g.data= .fields vs)(N:vs[1]? =Ja (.ref T))(Y:s.heap.get? T=Ja W)(U:W.data= .fields t)
  (J:t[3]? =Ja .none)(h:∀S,(∀b o,s.heap.get? b=Ja o->S.get? b=Ja o)->Q () {s with heap:=S}):Jh (Mo C) A (JS (.ref a) Jb) Q Er s:=by
 have z:=(Kn.mp J).1;refine wpAny_setFlight_none O v N Y U z (h _ λb o e=> ?_);have same:t.setIfInBounds 3 .none=t:=by
  apply Array.ext
  ·simp
  ·intro i N p;rw[Array.getElem_setIfInBounds]
   split
   ·rename_i q;subst q;exact((Kn.mp J).2).symm
   ·rfl
 have P:W.mapFields (·.setIfInBounds 3 .none)=W:=by
  obtain⟨c,d,X,B⟩:=W;simp only at U;subst U;simp only[Obj.mapFields,same]
 by_cases q:b=T
 ·subst q;obtain rfl:=sj<|Y.symm.trans e;rw[Ki _ Y (Obj.isFreed_of_fields<|Obj.data_mapFields U _),P]
 ·rw[KF _ _ (λe=>q e.symm)];exact e
theorem EnvR.stepF{S:Jg->Prop}{h u:Ji}(x:EnvR C env ρ σ h)(st:Step S σ h σ' u)(R:∀b o,S b->h.get? b=Ja o->∃vs,o.data= .fields vs):EnvR C env ρ σ' u where
 fn:=x.fn
 glob:=x.glob
 blt:=x.blt
 ns:=by
  obtain⟨m,F,hv⟩:=x.ns;refine⟨m,Ns.like F λo e=> ?_,λy p T w=>by obtain⟨v,a,b⟩:=hv y p T w;exact⟨v,a,b.step st⟩⟩;obtain⟨o0,i,g,k⟩:=st.keep _ o e x.newL;obtain⟨P,U,H,w,W,o0⟩:=F;obtain rfl:=sj<|e.symm.trans w;exact⟨i,g,k λf=>by obtain⟨vs,q⟩:=R _ o f e;rw[W] at q;cases q⟩
 cell:=λy p T w=>by
  obtain⟨c,v,a,b,d⟩:=x.cell y p T w;refine⟨c,v,a,IsCell.like b λo e=> ?_,d.step st⟩;obtain⟨o0,i,g,k⟩:=st.keep _ o e (x.newC _ c a).1;obtain⟨P,w,W⟩:=b;obtain rfl:=sj<|e.symm.trans w;exact⟨i,g,k λf=>by obtain⟨vs,q⟩:=R _ o f e;rw[W] at q;cases q⟩
 newL:=by
  obtain⟨m,⟨o,U,H,e,o0⟩,o0⟩:=x.ns;exact(st.keep _ o e x.newL).1
 newC:=λy c e=>by
  obtain⟨a,v,o,b,d⟩:=x.newC y c e;obtain⟨q,i,g,k⟩:=st.keep _ o b a;exact⟨q,v,i,g,(k λf=>by obtain⟨vs,q⟩:=R _ o f b;rw[d] at q;cases q).2.2.1.trans d⟩
 baseL:=x.baseL
 baseC:=x.baseC
 apart:=x.apart
 hasC:=x.hasC
theorem AOK.stepF{S:Jg->Prop}{h W:Ji}(x:AOK C n A l σ h)(st:Step S σ h σ' W)(R:∀b o,S b->h.get? b=Ja o->∃vs,o.data= .fields vs):AOK C n A l σ' W:=
 ⟨x.depth,x.units,x.stack,(x.frs.step st λe O L w f=>by
  obtain⟨o0,r,i,U,m,T,o0,o0,u,V⟩:=x.frs e O;obtain rfl:=sj (w.symm.trans T);obtain⟨vs,q⟩:=R L i f u;rw[V] at q;cases q),x.calm⟩
theorem zO{fl:Fl}(x:FR C.un σ h fl f):FR C σ h fl f:=by
 induction fl with
 |next=>exact x
 |ret p=>obtain⟨v,e,hv⟩:=x;exact⟨v,e,by rw[hJ] at hv;exact hv⟩
end
end
section
open PySem.W PyProof.Rows
noncomputable def came(e:Jf)(env:Js):Sem Unit:=do
 if(<-field e 1)== .none then unsupported "frame.own-activation:exception-without-traceback"
 JS e env.frame
section
variable{C:Cx}{G:Gx}{mg mb:Jq->Option Jf}{n:Nat}{A:Jj}{env:Js}{ρ:Rho}{σ:PH}{s:Je}{l:List Js}
theorem SX.pass(tf:TopF env l)(x:SX C n A l env σ s X e s'):notedBy (Mo C) A env (cameBackBy (Mo C) A env (SX C n A l env σ s X)) e s':=by
 obtain⟨D,j,m,fl,v,c,P,r,k,w⟩:=x;obtain⟨b,rfl,h⟩:=id tf;have key:=i5 (fo:=env.frame) (K:=came e env) (Er:=λo0 o0=>False) (Q:=λo0 W=>SX C n A (env::b) env σ s X e W) k.stack k.frs h c fl (λL q=>by obtain rfl:=sj<|h.symm.trans q;rfl) P (λa t i U T y N p H R=> ?_) λS M f o O E=> ?_
 ·exact YI key (λo0 B p=>YI p (λo0 o0 z=>z) λo0 o0 z=>z.elim) λo0 o0 z=>z.elim
 ·subst y;unfold came;refine YG<|YL N p H ?_;rw[Y7 (show ¬ ((Value.ref T==Value.none)=Jc) from QF)];exact R
 ·obtain⟨F,stF,J⟩:=O;exact⟨D,j,m,f,v.stepF stF J,M,o,r,k.stepF stF J,w⟩
structure WhAt(C:Cx)(env:Js)(n:Nat)(A:Jj)(l:List Js)(go:Rho->PH->Prop)(σ:PH)(s:Je)(ρ':Rho)(σ':PH)(s':Je):Prop where
 m:Sim C σ' s'.heap
 ev:EnvR C env ρ' σ' s'.heap
 step:Step (ownE env) σ s.heap σ' s'.heap
 rest:Rest s s'
 ak:AOK C n A l σ' s'.heap
 go:go ρ' σ'
theorem tR(ht:TsOK C G n sc t u)(hb:StsK C G n sc b y):StK C G n sc (.while_ t b) (.While u y [] pos):=λ{env ρ A l σ s Q X} R w=>by
 obtain⟨o0,k,w⟩:=w;refine wpAny_While<|codeAny_whileLoop (λL s'=>∃O i,WhAt C env n A l (whGo (λρ σ K=>we G (aO C n) t ρ σ (λv m=>cy (λc=>K c m) v) λx m=>X x ρ m) (λρ σ K=>wss G (aO C n) (aO C.un n) b ρ σ K X) Q L) σ s O i s') ?_ k ⟨ρ,σ,R.m,R.ev,.refl _ _ _,.refl s,R.ak,w⟩;intro L s' hI;obtain⟨O,i,I⟩:=hI
 induction L using Nat.casesOn with
 |zero=>exact I.go.elim
 |succ j=>
  have J:∀ {m:PH} {W:Je} {e:Jf} {B:Je},Step (ownE env) σ s.heap m W.heap->Rest s W->SX C n A l env m W X e B->notedBy (Mo C) A env (cameBackBy (Mo C) A env<|SX C n A l env σ s X) e B:=λst r z=>SX.pass R.tf (SX.from st r z);refine YI (ht (K:=λc m=>if c then wss G (aO C n) (aO C.un n) b O m (onFl (λZ U=>whGo (λρ σ K=>we G (aO C n) t ρ σ (λv m=>cy (λc=>K c m) v) λx m=>X x ρ m) (λρ σ K=>wss G (aO C n) (aO C.un n) b ρ σ K X) Q j Z U) Q) X else Q .next O m) (X:=λx m=>X x O m) ⟨R.sr,I.ev,I.m,I.ak⟩ I.go) (λc W h=> ?_) λe B z=>J I.step I.rest<|XP.stmt I.ev I.ak z
  ·obtain⟨m,N,P,r1,g⟩:=h;have d:=I.ev.step P;have a:=I.ak.step P;have o:=I.step.trans P.own;have M:=I.rest.trans r1
   induction c with
   |false=>exact JK ⟨.next,O,m,rfl,d,N,o,M,a,g⟩
   |true=>
    refine YI (hb ⟨⟨R.sr,d,N,a⟩,R.tf⟩ g) (λf s3 hf=> ?_) λe s3 z=>J o M z;obtain⟨fl,T,D,V,Y,m3,H,r3,F,q⟩:=hf
    induction fl with
    |next=>
     simp only[FR] at V;subst V;exact⟨j,QG j,T,D,m3,Y,o.trans H,M.trans r3,F,q⟩
    |ret p=>
     obtain⟨v,rfl,hv⟩:=V;exact⟨.ret p,T,D,⟨v,rfl,hv⟩,Y,m3,o.trans H,M.trans r3,F,q⟩
end
end
section
open PySem.W PyProof.Rows
structure Caught(C:Cx)(G:Gx)(n:Nat)(A:Jj)(l:List Js)(env:Js)(σ:PH)(s:Je)(px:PX)(ρ1:Rho)(σ1:PH)(s1:Je)(a:Jg)(oe:Jp)(vs:Array Jf)(T:Jg)(oT:Jp)(ts:Array Jf)(k:Jg):Prop where
 at_:s1.heap.get? a=Ja oe
 dat:oe.data= .fields vs
 tb:vs[1]? =Ja (.ref T)
 hT:s1.heap.get? T=Ja oT
 dT:oT.data= .fields ts
 nT:ts[3]? =Ja Value.none
 cls:C.cls px.c=Ja k
 ocl:oe.cls= .ref k
 odi:FF C px σ1 s.heap s1.heap oe.dict
 m:Sim C σ1 s1.heap
 ev:EnvR C env ρ1 σ1 s1.heap
 ak:AOK C n A l σ1 s1.heap
 st:Step (ownE env) σ s.heap σ1 s1.heap
 rest:Rest s s1
section
variable{C:Cx}{G:Gx}{mg mb:Jq->Option Jf}{n:Nat}{A:Jj}{l:List Js}{env:Js}{σ:PH}{s:Je}{px:PX}{ρ1:Rho}{σ1:PH}{s1:Je}{a:Jg}{oe:Jp}{vs:Array Jf}{T:Jg}{oT:Jp}{ts:Array Jf}{k:Jg}
theorem FF.inst{h₀ h:Ji}{oe:Jp}(f:FF C x σ h₀ h oe.dict)(g:h.get? a=Ja oe)(v:oe.data= .fields vs)(c:oe.cls= .ref k):∃D,InstAt h a oe k D:=by
 induction f with
 |no _ e=>exact⟨Jb,g,c,by simp[notCls,v],by rw[e];trivial⟩
 |at_ _ d o e _ _ _ t _=>exact⟨Ja o,g,c,by simp[notCls,v],by rw[e];exact t⟩
theorem wa(g:GOK C G mg mb)(X:ExcOK C G mg mb){E:List Jo}(F:StsK C.un G.un n sc h (b::E))(r:ScR sc env)(tf:TopF env l)
  (v:Caught C G n A l env σ s px ρ1 σ1 s1 a oe vs T oT ts k)(N:G.cs.contains c=Jc)(Y:glb sc c t=Jc)
  (w:G.sub px.c c=Jc->wss G.un (aO C.un n) (aO C.un n) h ρ1 σ1 Q λo0 o0 o0=>False)
  (wn:G.sub px.c c=Jd->Jh (Mo C) A (handleBy (.ref a) env rest) (SP C n A l env σ s Q) (SX C n A l env σ s H) s1):
  Jh (Mo C) A (handleBy (.ref a) env (.ExceptHandler (Ja t) Jb (b::E) p::rest)) (SP C n A l env σ s Q) (SX C n A l env σ s H) s1:=by
 obtain⟨L,rfl,B,W⟩:=jP Y;obtain⟨o,I⟩:=v.odi.inst v.at_ v.dat v.ocl;obtain⟨U,d⟩:=X.has c N;refine wpAny_handleBy_cons (codeAny_handlers_test<|gV g v.ev v.m (r.glob _ B) W (X.cls c U d) ((exm_one (M:=Mo C) (X.kin.keeps v.m.base) I.type<|X.sub _ _ _ _ v.cls d).here ?_))<|by intro q;cases q
 induction u:G.sub px.c c with
 |false=>exact wn u
 |true=>
  refine codeAny_handlers_suite (qO (C:=C) v.at_ v.dat v.tb v.hT v.dT v.nT λY kp=> ?_);have sk:Step none1 σ1 s1.heap σ1 Y:= .more kp;refine YI (F (s:={s1 with heap:=Y}) (A:=A.mark<|Ja (.ref a)) ⟨⟨r,(v.ev.step sk).un,(v.m.more kp).un,(v.ak.step sk).un⟩,tf⟩<|w u) (λf x j=> ?_) λo0 o0 z=>SX.none z;obtain⟨Z,i,m,J,e,y,V,O,P,q⟩:=j;exact⟨Z,i,m,zO J,e.re,y.re,(v.st.trans sk.own).trans V,v.rest.trans O,P.re v.ak,q⟩
theorem vu{E:Rho}(R:StsK C G n sc b y)(I:AtS C n sc env E A l σ s)
  (w:wss G (aO C n) (aO C.un n) b E σ Q W)
  (h:∀px ρ1 σ1 s1 a oe vs T oT ts k,Caught C G n A l env σ s px ρ1 σ1 s1 a oe vs T oT ts k->W px ρ1 σ1->Jh (Mo C) A (handleBy (.ref a) env (i::H)) (SP C n A l env σ s Q) (SX C n A l env σ s X) s1):
  Jh (Mo C) A (exec (.Try y (i::H) [] [] pos) env) (SP C n A l env σ s Q) (SX C n A l env σ s X) s:=by
 refine wpAny_Try_except ?_;refine YI (R I w) (λf s1 g=> ?_) λe s1 hx=> ?_
 ·obtain⟨fl,ρ1,σ1,L,m,c,t,d,B,q⟩:=g
  induction fl with
  |next=>
   simp only[FR] at L;subst L;exact JK ⟨.next,ρ1,σ1,rfl,m,c,t,d,B,q⟩
  |ret v=>
   obtain⟨v',rfl,hv⟩:=L;exact⟨.ret v,ρ1,σ1,⟨v',rfl,hv⟩,m,c,t,d,B,q⟩
 ·obtain⟨px,ρ1,σ1,fl,m,c,t,d,B,w⟩:=hx;obtain⟨l',rfl,r⟩:=id I.tf;refine i5 (K:=JS e Jb) B.stack B.frs r c fl (λL' q=>by obtain rfl:=sj<|r.symm.trans q;rfl) t (λo0 o0 o0 o0 o0 o0 o0 o0 o0 z=>z) λh' M Z V O P=> ?_;obtain⟨F,stF,J⟩:=O;obtain⟨a,oe,vs,T,oT,ts,rfl,p,j,e3,e4,D,e6,e7⟩:=P;obtain⟨a',o,aa,k,ea,q2,q3,q4,N,q6,u,U,q9,x,Y⟩:=Z;cases ea;obtain rfl:=sj<|p.symm.trans N;rw[j] at U;cases U;exact h px ρ1 σ1 {s1 with heap:=h'} a oe vs T oT ts k ⟨p,j,e3,D,e6,e7,q6,u,Y,M,m.stepF stF J,B.stepF stF J,V,d⟩ w
end
section
variable{C:Cx}{G:Gx}{mg mb:Jq->Option Jf}{n:Nat}
theorem s6(g:GOK C G mg mb)(X:ExcOK C G mg mb)(Y:glb sc c t=Jc)(R:StsK C G n sc b y)(f:StsK C.un G.un n sc h (U::r)):StK C G n sc (.try1 b c h) (.Try y [.ExceptHandler (Ja t) Jb (U::r) p] [] [] q):=λ{env L A l σ s Q H} I w=>by
 refine vu R I w.2 λpx ρ1 σ1 s1 a oe vs T oT ts k v m=> ?_;refine wa g X f I.sr I.tf v w.1.2.2 Y (λE=>by rw[Y8 E] at m;exact m) λE=> ?_;rw[Y7 (by rw[E];exact QF)] at m;exact m.elim
theorem todoE(g:GOK C G mg mb)(X:ExcOK C G mg mb):Todo C G n:=⟨qT X,oN g X⟩
theorem sW(g:GOK C G mg mb)(X:ExcOK C G mg mb):Todo2 C G n:=⟨tR,λo0 h=>oh g X h,λo0 o0=>s6 g X⟩
end
end
section
open PySem.W PyProof.Rows
theorem r8{P:Jo->Prop}(h:mAsg sc f e x=Jc)(k:∀I r g v,isLoc sc (Qb "self")=Jc->bu (Qb "self")=Jc->kz v=Jc->mE sc e v=Jc->P (.Assign [.Attribute (.Name (Qb "self") I) (Qb f) r] v g)):P x:=
 nI h λt v o J w=>vK (P:=λt=>P<|.Assign [t] v o) J λz p B o0 o0=>hW (P:=λz=>P<|.Assign [.Attribute z (Qb f) p] v o) B λq W S=>k q p o v W S (and2 w).1 (and2 w).2
structure Half(h:Ji)(x dx k:Jg)(mA:Jq->Option Jf):Prop where
 obj:∃o,A4 (h.get? x=Ja o) (o.cls= .ref k) (o.dict=Ja dx) (∀c,o.data≠ .cls c)
 ne:dx≠x
 ns:h.Ns1 dx mA
section
variable{C:Cx}{G:Gx}{mg mb:Jq->Option Jf}{n:Nat}{x dx k:Jg}{mA:Jq->Option Jf}{h h':Ji}{σ σ':PH}
theorem Half.inst(a:Half h x dx k mA):h.Inst x k mA:=by obtain⟨o,T,w,e,u⟩:=a.obj;exact⟨o,T,w,u,.inr ⟨dx,e,a.ne,a.ns⟩⟩
theorem Half.step(a:Half h x dx k mA)(st:Step none1 σ h σ' h')(i:σ x=Jb)(nd:σ dx=Jb):Half h' x dx k mA/\σ' x=Jb/\σ' dx=Jb:=by
 obtain⟨o,F,Z,Q,q⟩:=a.obj;obtain⟨W,R,e,N⟩:=st.keep x _ F i;obtain⟨U,K,P,o0⟩:=N λf=>f.elim;obtain⟨v,s,p,T,w,X⟩:=a.ns;obtain⟨V,d,u,l⟩:=st.keep dx _ T nd;exact⟨⟨⟨R,e,U.trans Z,K.trans Q,λc z=>q c<|P.symm.trans z⟩,a.ne,d,s,p,u,(l λf=>f.elim).2.2.1.trans w,X⟩,W,V⟩
theorem Half.noTup(a:Half h x dx k mA):∀vs n,h.get? dx≠Ja (tupO vs n):=λvs n q=>by
 obtain⟨o,s,p,T,e,o0⟩:=a.ns;obtain rfl:=sj<|T.symm.trans q;cases e
inductive NewAt(B:Ji)(k fI:Jg)(fl:List String):Prop
 |mk (nm q:Jq) (N:Jg) (bs:List Jf) (sn:List Jq) (sub:List Jf) (col:Option Bool) (dd:Option Jg) (k0 k1 k2 k3 k5:Option Jf) (mN:Jq->Option Jf) (hC:B.get? k=Ja (JE nm q k N bs [.type "object"] Jc sn sub Jd col dd k0 k1 k2 k3 k5 "object.__new__")) (hN:B.Ns N mN)
  (hi:mN "__init__"=Ja (.ref fI)) (hs:mN "__setattr__"=Option.none) (hf:∀f∈fl,mN (Qb f)=Option.none/\JY (.type "object") (Qb f)=pure Option.none):NewAt B k fI fl
theorem NewAt.keeps{B e:Ji}{fl:List String}(N:NewAt B k f fl)(kp:∀b o,B.get? b=Ja o->e.get? b=Ja o):NewAt e k f fl:=by
 obtain⟨nm,q,I,bs,sn,sub,c,d,S,P,U,F,O,m,M,a,i,s,w⟩:=N;exact⟨nm,q,I,bs,sn,sub,c,d,S,P,U,F,O,m,kp _ _ M,a.keeps kp,i,s,w⟩
theorem NewAt.kp{fl:List String}(N:NewAt C.B k f fl):Kp C (.ref k):=by
 obtain⟨nm,q,a,bs,sn,sub,c,d,S,P,U,F,O,m,M,o0⟩:=N;exact⟨.machine,.inr<|.inl rfl,λA Q E s kp q=>wpAny_keeperOf_exc (kp _ _ M) q⟩
structure Ini(C:Cx)(n:Nat)(A:Jj)(l:List Js)(env:Js)(ρ:Rho)(x dx k:Jg)(σ₀:PH)(s₀:Je)(mA:Jq->Option Jf)(ns:List Jq)(σ:PH)(s:Je):Prop where
 ev:EnvR C env ρ σ s.heap
 m:Sim C σ s.heap
 ak:AOK C n A l σ s.heap
 st:Step none1 σ₀ s₀.heap σ s.heap
 r:Rest s₀ s
 hf:Half s.heap x dx k mA
 nx:σ x=Jb
 nd:σ dx=Jb
 wi:Within mA ns
theorem mz{env:Js}{S:Rho}{s₀ s:Je}{ns:List Jq}{fl:List String}{P:PV->PH->Prop}{R:Flow->Je->Prop}{Er:Jf->Je->Prop}
  (hE:WB C G n e)(hm:mAsg sc f e y=Jc)(sr:ScR sc env)(I:Ini C n A l env S x dx k B s₀ mA ns σ s)(U:S.get "self"=Ja (.ref x))(N:NewAt C.B k fI fl)(i:f∈fl)(hz:ns.length<=100)(bd:C.B.get? dx=Jb)(bx:C.B.get? x=Jb)
  (d0:s₀.heap.get? dx=Jb)(fL:env.locals≠dx)(fc:∀y c,env.cells.lookup y=Ja c->c≠dx)(ff:∀J∈l,∀L,J.frame=Ja L->L≠dx)(w:we G (aO C n) e S σ P λo0 o0=>False)
  (kk:∀p v σ1 W,P p σ1->VR C σ1 W.heap p v->(∀q u,VR C σ s.heap q u->VR C σ1 W.heap q u)->Ini C n A l env S x dx k B s₀ (λz=>if z=Qb f then Ja v else mA z) (Qb f::ns) σ1 W->R .next W):Jh (Mo C) A (exec y env) R Er s:=by
 refine r8 (P:=λy=>Jh (Mo C) A (exec y env) R Er s) hm λp1 p2 p4 v h1 h2 M h3=> ?_;obtain⟨nm,q,Na,bs,sn,sub,ai,dd,k0,k1,k2,k3,k5,mN,hC,hN,hi,hs,hf⟩:=N;refine YZ ?_<|gu M rfl;refine YI ((hE sc v h3).1 ⟨sr,I.ev,I.m,I.ak⟩ w) (λv W hv=> ?_) λo0 o0 z=>XP.none z;obtain⟨p,σ1,K,m1,H,r1,w1⟩:=hv;have m:=I.ev.step H;obtain⟨T,aa,j⟩:=I.hf.step H I.nx I.nd;refine ke m (jx sr h1) h2 U λu hu=> ?_;rw[show u= .ref x from hu];obtain⟨V,g,d,t,os⟩:=W;have ab:x≠k:=λz=>by rw[z,hC] at bx;exact Vl.Internal.sn bx
 refine store_attr F.store_object (m1.base _ _ hC) (hN.keeps m1.base) hs (hf f i).1 (hf f i).2 ab T.inst (λh' O I' keep same=> ?_) I.wi (zle hz<|by rw[JU];decide);obtain⟨ob,Y,q2,Q,q4⟩:=T.obj;obtain⟨b,a,o2,o3,o4,o5⟩:=same _ Y;obtain rfl:b=ob:=by
  have o6:=(o5 dx Q).trans Q.symm;obtain⟨c1,d1,af,ad⟩:=b;obtain⟨c2,d2,ae,aj⟩:=ob;simp only at o2 o3 o4 o6;subst o2 o3 o4 o6;rfl
 have X:h'.get? x=V.get? x:=a.trans Y.symm;have mv:Mv (· ∈ [dx]) V h':=λc o f e=>by
  by_cases z:c=x
  ·rw[z] at e ⊢;exact X.trans e
  ·exact keep c o z (λac ah e0 D q=>by obtain rfl:=sj<|Y.symm.trans e0;obtain rfl:=sj<|Q.symm.trans D;exact f<|Qk.mpr q) e
 have Z:Fok C σ1 V (· ∈ [dx]):=λc f=>by have f:=Qk.mp f;subst f;exact⟨bd,j,T.noTup⟩
 have ne:∀ {c:Jg},c≠dx->¬c∈ [dx]:=λz q=>z<|Qk.mp q;refine kk p v σ1 ⟨h',g,d,O,os⟩ w1 (K.mv mv Z) (λq u r=>(r.step H).mv mv Z) ⟨m.mv mv Z (ne fL) λy c q=>ne<|fc y c q,m1.mv mv Z,(I.ak.step H).mv mv λJ he L q=>ne<|ff J he L q,(I.st.trans H).mv mv λc f=>by rw[Qk.mp f];exact d0,I.r.trans ⟨r1.1,r1.2⟩,⟨⟨b,a,q2,Q,q4⟩,T.ne,?_⟩,aa,j,Within.cons _ v I.wi⟩;obtain⟨o,D,e2,e3,e4⟩:=I';obtain rfl:=sj<|a.symm.trans D
 rcases e4 with⟨q,o0⟩|⟨d',q,o0,e5⟩
 ·exact Vl.Internal.sn<|Q.symm.trans q
 ·obtain rfl:=sj<|Q.symm.trans q;exact e5
theorem AOK.call{A:Jj}(a:AOK C (n+2) A l σ h)(st:Step none1 σ h σ' h'):AOK C (n+1) (A.under (.builtin "type.__call__" ⟨.ref k::vs,[]⟩)) l σ' h':=by
 have a:=a.step st;refine⟨?_,?_,a.stack,a.frs,a.calm⟩
 ·show A.depth+(0+1+0+0)+(n+1)+2<_;exact Kh (Kf (Kd<|by rw[QQ,Nat.add_assoc A.depth (n+1)]) 2) a.depth
 ·have:=a.units;show A.units+_+30*(n+1)+300<_;refine Kh (Kf ?_ 300) this;rw[QQ];exact KH (show _<=30 from Kt rfl)<|A.units+30*(n+1)
theorem xF(g:GOK C G mg mb){oI:Jp}{fd:Jr}(u:C.icl=Ja k)(ao:C.fv "Bounds"=Ja (.ref k))(kp:Kp C (.ref k))(N:NewAt C.B k fI [r,M])(F:FnIn C.B ["self",B] fI oI fd [y1,y2])(ah:oI.cls= .type "function")(ar:mAsg fd.scope r e1 y1=Jc)(an:mAsg fd.scope M e2 y2=Jc)
  (W:C.flds "Bounds"=[r,M])(ab:r≠M)(am:WB C G n e1)(ae:WB C G n e2)(S:List String)
  (w:∀x,σ x=Jb->we G (aO C n) e1 (rho0 ["self",B] S [.ref x,p]) σ (λv σ1=>we G (aO C n) e2 (rho0 ["self",B] S [.ref x,p]) σ1 (λZ O=>∀d a,O d=Jb->O a=Jb->d≠a->Q (.ref a) ((O.set d<|.fd "Bounds" [v,Z]).set a (.inst d))) λo0 o0=>False) λo0 o0=>False):aO C (n+2) "Bounds" [p] σ Q X:=by
 refine⟨.ref k,ao,kp,λA l s vs ak m hv=> ?_⟩;obtain⟨nm,q,Na,bs,sn,sub,ax,dd,k0,k1,k2,k3,k5,mN,hC,hN,hi,hs,hf⟩:=id N;obtain⟨hp,gg,dr,tk,os⟩:=s;refine wpAny_call_obj_init PySem.F.objNew (m.base _ _ hC) (hN.keeps m.base) hi (m.base _ _ F.ho) ah λh' x dx D=>wpAny_call ?_;have bx:C.B.get? x=Jb:=(c4 m D.newX).1;have bd:C.B.get? dx=Jb:=(c4 m D.newD).1;have t:Step none1 σ hp σ h':= .more D.keeps;have m0:Sim C σ h':=m.more D.keeps;obtain⟨o,ox,oc,as,od⟩:=D.inst;have av:AOK C (n+1) (A.under<|.builtin "type.__call__" ⟨.ref k::vs,[]⟩) l σ h':=ak.call t;refine nR g F S rfl (s:=⟨h',gg,dr,tk,os⟩) (vs:= .ref x::vs) (args:=[.ref x,p]) av m0 ⟨.ref x,vs,rfl,rfl,hv.step t⟩ λe J sr ev m1 P r1 ai au H b back=> ?_;have K:=D.dict o ox;obtain⟨af,V⟩:dx≠x/\h'.Ns1 dx λo0=>Jb:=by
  rcases od with⟨q,o0⟩|⟨d',q,z1,z2⟩
  ·exact Vl.Internal.sn<|K.symm.trans q
  ·obtain rfl:=sj<|K.symm.trans q;exact⟨z1,z2⟩
 have nx:σ x=Jb:=(c4 m D.newX).2;have nd:σ dx=Jb:=(c4 m D.newD).2;obtain⟨aj,al,ad⟩:=(Half.mk (k:=k) ⟨o,ox,oc,K,as⟩ af V).step P nx nd;have R:dx<h'.objs.size:=by obtain⟨o0,o0,o0,z,o0⟩:=V;exact QS z
 have fL:e.locals≠dx:=by rw[H];exact Yj R
 have fc:∀y c,e.cells.lookup y=Ja c->c≠dx:=λy c q=>Yj<|QO R (b y c q);have ff:∀en∈e::l,∀L,en.frame=Ja L->L≠dx:=λen he L q=>by
  rcases QB.mp he with rfl|he
  ·obtain rfl:=sj<|au.symm.trans q;exact fL
  ·obtain⟨o0,L',o',es,ep,z1,z2,z3,z4,z5⟩:=ak.frs en he;obtain rfl:=sj<|z1.symm.trans q;exact λz=>by rw[z,D.newD] at z4;exact Vl.Internal.ns z4
 have U:(rho0 ["self",B] S [.ref x,p]).get "self"=Ja (.ref x):=Y8 rfl;have I0:Ini C n ((A.under<|.builtin "type.__call__" ⟨.ref k::vs,[]⟩).deeper e) (e::l) e (rho0 ["self",B] S [.ref x,p]) x dx k σ ⟨hp,gg,dr,tk,os⟩ (λo0=>Jb) [] σ J:=⟨ev,m1,ai,t.trans P,⟨r1.1,r1.2⟩,aj,al,ad,Within.nil⟩
 refine J3 (mz am ar sr I0 U N (.head _) (QN _) bd bx D.newD fL fc ff (w x nx) λv v1 σ1 s1 w1 aq o0 I1=> ?_);refine J3 (mz ae an sr I1 U N (.tail _<|.head _) (Kt rfl) bd bx D.newD fL fc ff w1 λZ v2 O s2 w2 ap keep I=> ?_);refine JK ⟨rfl,?_⟩;obtain⟨ac,es,ep,g1,g2,g3,g4,g5⟩:=I.hf.ns;obtain⟨o2,b1,b2,b3,b4⟩:=I.hf.obj;have aw:FD C O s2.heap "Bounds" [v,Z] ac:=by
  refine⟨es,ep,g2,g3,λi f p Y T=> ?_,λz hz=> ?_⟩
  ·rw[W] at Y
   match i,Y,T with
   |0,Y,T=>
    obtain rfl:=sj Y;obtain rfl:=sj T;exact⟨v1,(g5 _).trans ((Y7 λz=>ab<|ofString_inj z).trans (Y8 rfl)),keep _ _ aq⟩
   |1,Y,T=>
    obtain rfl:=sj Y;obtain rfl:=sj T;exact⟨v2,(g5 _).trans (Y8 rfl),ap⟩
   |_+2,Y,_=>exact Vl.Internal.ns Y
  ·rw[W] at hz;exact(g5 z).trans ((Y7<|hz M (.tail _<|.head _)).trans (Y7<|hz r (.head _)))
 have m3:=I.m.adopt (po:= .fd "Bounds" [v,Z]) I.nd I.hf.noTup g1 bd aw;have aa:(O.set dx<|.fd "Bounds" [v,Z]) x=Jb:=(PH.set_ne _ _<|Ne.symm I.hf.ne).trans I.nx;have m4:=m3.adopt (po:= .inst dx) aa (λws j z=>by obtain rfl:=sj<|b1.symm.trans z;cases b2) b1 bx ⟨k,u,b2,b4,b3,_,PH.set_same _ _ _⟩;exact⟨.ref x,_,rfl,m4,(I.st.add _ D.newD nd).add _ D.newX nx,I.r,w2 dx x I.nd I.nx I.hf.ne⟩
end
end
section
open PySem.W PyProof.Rows
theorem je:∀ {as:List Jg},(gD h as).In h
 |[]=>λa o e=>by exact ns e
 |b::r=>λa o e=>by
  induction R:h.get? b with
  |none=>
   have:gD h (b::r)=gD h r:=by simp[gD,R]
   rw[this] at e;exact je (as:=r) a o e
  |some C=>
   have:gD h (b::r)=(b,C)::gD h r:=by simp[gD,R]
   rw[this,Yv] at e;by_cases q:a=b
   ·subst q;rw[beq_self_eq_true] at e;obtain rfl:=sj e;exact R
   ·rw[beq_eq_false_iff_ne.mpr q] at e;exact je (as:=r) a o e
theorem vR{K:Frag}{h:Ji}{m:Jq->Option Jf}(X:K.In h)(N:h.Ns a m)(e:nsIn K a x=Ja (Ja v)):m x=Ja v:=by
 obtain⟨o,s,H,w,W,o0,f⟩:=N;unfold nsIn at e
 induction l:K.lookup a with
 |none=>rw[l] at e;exact ns e
 |some b=>
  obtain⟨c,d,t,B⟩:=b;rw[l] at e;have:=X _ _ l;obtain rfl:=sj<|w.symm.trans this;cases W;dsimp only at e
  induction n:s.toList.find? (·.key.isStr x) with
  |some p=>
   rw[n] at e;cases e;rw[<-f];unfold nsFind findBy;rw[<-Array.find?_toList,n];rfl
  |none=>
   rw[n] at e;dsimp only at e;by_cases q:s.toList.any (·.refKey)=Jc
   ·exact ns<|(Y8 q).symm.trans e
   ·rw[Y7 q] at e;cases e
end
theorem oS{ns:List Jq}:∀ {vs:List Jf},vs.length=ns.length->ns.Nodup->∀n∈ns,((ns.zip vs).lookup n).isSome=Jc:=by
 induction ns with
 |nil=>intro vs _ _ n h;cases h
 |cons a r i=>
  intro vs l d n h
  induction vs using List.casesOn with
  |nil=>simp at l
  |cons v vs=>
   simp only[WH];by_cases q:n=a
   ·subst q;rw[lookup_cons_self];rfl
   ·rw[bL q];exact i (by simpa using l) (QA.mp d).2 n ((QB.mp h).resolve_left q)
theorem kO{ns:List Jq}:∀ {vs:List Jf},vs.length=ns.length->ns.Nodup->ns.filterMap (λn=>((ns.zip vs).lookup n).map (n,·))=ns.zip vs:=by
 induction ns with
 |nil=>intro vs _ _;rfl
 |cons a r W=>
  intro vs T d
  induction vs using List.casesOn with
  |nil=>simp at T
  |cons v vs=>
   simp only[WH,List.filterMap_cons,lookup_cons_self,Wg]
   congr 1
   have key:∀l:List Jq,a∉l->l.filterMap (λn=>(YF n ((a,v)::r.zip vs)).map (n,·))=l.filterMap (λn=>((r.zip vs).lookup n).map (n,·)):=by
    intro l
    induction l with
    |nil=>intro _;rfl
    |cons b q i=>
     intro h;simp only[QB,not_or] at h;simp only[List.filterMap_cons,bL (λe=>h.1 e.symm:b≠a),i h.2]
   rw[key r (QA.mp d).1];exact W (by simpa using T) (QA.mp d).2
theorem pi{L:Type}{a b:Sem L}(h:c=Jd):(if c=Jc then a else b)=b:=by rw[h];rfl
theorem ib{f:Jr}{as:List Arg}{z:List (Option Jl)}{ds:List Jl}{v:List Jf}(N:f.params={posonlyargs:=[],args:=as,vararg:=Jb,kwonlyargs:=[],kw_defaults:=z,kwarg:=Jb,defaults:=ds})
  (q:f.defaults= .none) (nd:(as.map (·.arg)).Nodup) (l:v.length=as.length):YY f ⟨v,[]⟩=pure ((as.map (·.arg)).zip v):=by
 have h:v.length=(as.map (·.arg)).length:=by simpa using l
 have T:((as.map (·.arg)).filter λn=>(((as.map (·.arg)).zip v).lookup n).isNone)=[]:=by
  rw[List.filter_eq_nil_iff];intro n o;have:=oS h nd n o;simp[Option.isSome_iff_ne_none.mp this]
 have e:=kO h nd;have d:∀k,List.drop k ([]:List Jf)=[]:=λk=>List.drop_nil;obtain⟨o0,o0,o0,o0,o0,o0,o0,o0,o0,o0,o0,o0,o0,o0,o0⟩:=f;cases N;cases q;unfold YY;dsimp only[WD,Ky];refine(pi (c:=decide (v.length>(as.map (·.arg)).length)&&Jc)<|by rw[h,Y5 (KG _)];rfl).trans ?_;refine(pi (c:= !(Wi (λn=>(((as.map (·.arg)).zip v).lookup n).isNone) (List.take ((as.map (·.arg)).length-(List.drop (0-(as.map (·.arg)).length) ([]:List Jf)).length) (as.map (·.arg)))).isEmpty)<|by rw[d,WJ,Nat.sub_zero,Kl,T];rfl).trans ?_;dsimp only[Option.getD_none];rw[d,List.zip_nil_right];show(pure (List.filterMap (λn=>Wx (λx=>(n,x)) (YF n ((as.map (·.arg)).zip v))) (as.map (·.arg)++[])):Sem (List<|Str×Jf))=_;rw[QI];exact Ub pure e
section
open PySem.W PyProof.Rows
theorem ij{ps:List String}(h:lw ps a=Jc):X3 λas k ds=>a={posonlyargs:=[],args:=as,vararg:=Jb,kwonlyargs:=[],kw_defaults:=k,kwarg:=Jb,defaults:=ds}/\as.map (·.arg)=ps.map Qb:=by
 obtain⟨p,as,v,o,k,w,ds⟩:=a
 induction p using List.casesOn with
 |cons=>exact bnx h
 |nil=>induction v with
  |some=>exact bnx h
  |none=>induction o with
   |cons=>exact bnx h
   |nil=>induction w with
    |some=>exact bnx h
    |none=>exact⟨as,k,ds,rfl,Y9 h⟩
theorem cb{L:Type}{o:Option L}{p:L->Bool}(h:o.any p=Jc):∃x,o=Ja x/\p x=Jc:=by
 induction o with
 |none=>exact ft h
 |some x=>exact⟨x,rfl,h⟩
theorem jK(h:refOf o=Ja a):o=Ja (.ref a):=by
 induction o with
 |none=>exact ns h
 |some v=>induction v using Value.casesOn with
  |ref b=>obtain rfl:=sj h;rfl
  |_=>exact ns h
theorem l5{d:Data}(h:clsOf d=Ja c):d= .cls c:=by
 induction d with
 |cls b=>obtain rfl:=sj h;rfl
 |_=>exact ns h
theorem um:lE h b=Jc->J0 h bmE b:=by
 induction b with
 |nil=>exact λe=>ft e
 |cons v l i=>
  intro e
  rcases Bool.or_eq_true_iff.mp e with e|e
  ·rw[Y9 e];exact .base
  ·obtain⟨A,r,e⟩:=cb e;obtain⟨⟨W,U,t,s⟩,o,e⟩:=cb e;obtain⟨d,c,e⟩:=cb e;obtain⟨T,w,X⟩:=and3 e;rw[sj (jK r)];have c:t= .cls d:=l5 c;subst c;exact .own o (.of_isNs T) (Ke.mp w)<|i X
theorem qQ(h:pd l=Jc):X5 λS k U F O=>l=[S,k,U,F,Ja (.builtin "ValueError.__new__"),O]:=⟨_,_,_,_,_,Y9 h⟩
theorem vo(e:mroOK h k l=Jc):∃b,l= .ref k::b/\lE h b=Jc:=by
 induction l using List.casesOn with
 |nil=>exact ft e
 |cons v b=>
  obtain⟨K,c⟩:=Qg.mp e;exact⟨b,by rw[Y9 K],c⟩
theorem nN{d:Data}(h:o9 d=Ja f):d= .func f:=by
 induction d with
 |func T=>obtain rfl:=sj h;rfl
 |_=>exact ns h
theorem nz{d:FuncBody}(h:oX d=Ja b):d= .stmts b:=by
 induction d with
 |stmts c=>obtain rfl:=sj h;rfl
 |_=>exact ns h
theorem ue{o:Jp}{c:ClassData}{S P U F O:Option Jf}(N:o.cls= .type "type")(p:o.data= .cls c)(J:c.mro= .ref k::b)(w:c.hasDict=Jc)(B:c.hasDel=Jd)(W:o.slots.toList=[S,P,U,F,Ja (.builtin n),O]):
  o=JE c.name c.qualname k c.ns c.bases b Jc c.slotNames c.subclasses c.abstract c.collection o.dict S P U F O n:=by
 obtain⟨M,f,t,⟨s⟩⟩:=o;obtain⟨nm,bs,m,ns,q,h,sn,sub,a,l,d⟩:=c;cases N;cases p;cases J;cases w;cases B;cases W;rfl
inductive FnSeen(h:Ji)(names:List String)(oI:Jp):Prop
 |mk (fd:Jr) (body:List Jo) (hfc:oI.cls= .type "function") (hd:oI.data= .func fd) (cd:h.CodeRec fd.code fd.qualname) (hb:fd.body= .stmts body) (clo:fd.closure=[]) (bind:∀vals:List Jf,vals.length=names.length+1->YY fd ⟨vals,[]⟩=pure ((("self"::names).map Qb).zip vals))
  (par:∀x∈"self"::names,fd.scope.names.lookup (Qb x)=Ja .local/\(Qb x==("__debug__":Jq))=Jd) (nd:("self"::names).Nodup) (co:fd.scope.isCoroutine=Jd) (gen:fd.scope.isGenerator=Jd) (kind:fd.scope.kind= .function) (mat:mIni fd.scope names body=Jc):FnSeen h names oI
theorem uu{names:List String}(m:fnObj h names o=Jc):FnSeen h names o:=by
 obtain⟨Y,z⟩:=Qg.mp m;obtain⟨d,f,s⟩:=cb z;obtain⟨b,R,V⟩:=cb s;obtain⟨B,L,H,a⟩:=and4 V;have c:=and3 B;have Z:=and3 L;have O:=and3 H;obtain⟨N,k,E,F,q⟩:=ij Z.1;have nd:("self"::names).Nodup:=Y6 Z.2.2;refine⟨d,b,Y9 Y,nN f,.of_ok c.1,nz R,List.isEmpty_iff.mp c.2.1,λv T=> ?_,λx hx=> ?_,nd,(Ka _).mp O.1,(Ka _).mp O.2.1,Y9 O.2.2,a⟩
 ·have l:v.length=N.length:=by
   have:=Ub Ys q;rw[Qd,Qd,KW] at this;rw[this];exact T
  rw[<-q];exact ib F (Y9 c.2.2) (by rw[q];exact ck nd) l
 ·obtain⟨J,t⟩:=Qg.mp<|Qy.mp Z.2.1 x hx;exact⟨Y9 J,(Ka _).mp t⟩
theorem xt{h:Ji}{K:Frag}{k:Jg}{names:List String}(e:iniOK h K k names=Jc):IniAt h K k names:=by
 obtain⟨T,w,W,u⟩:=and4 e;obtain⟨o,d,V⟩:=cb T;obtain⟨c,v,E⟩:=cb V;obtain⟨x,Q,G⟩:=and3 E;have g:=and3 x;have X:=and3 Q;obtain⟨f,j,B⟩:=cb G;obtain⟨A,I,m⟩:=cb B;obtain⟨r,b,Y,z,i,F,L,U,M,J,O,N,S,n⟩:=uu m;obtain⟨Z,C,t⟩:=vo g.2.2;obtain⟨a,P,y,p,H,s⟩:=qQ g.2.1;have D:=d.trans<|congrArg Ja (ue (Y9 g.1) (l5 v) C X.1 ((Ka _).mp X.2.1) s);exact⟨Z,c.ns,c.name,c.qualname,c.bases,c.slotNames,c.subclasses,c.abstract,c.collection,o.dict,a,P,y,p,H,h.nsMap c.ns,f,A,r,b,D,.of_isNs X.2.2,jK j,um t,I,Y,z,i,F,L,U,M,J,O,N,S,n,Y9 w,(λq=>by rw[q] at W;exact ft W),Y6 u⟩
theorem IniAt.keeps{h A:Ji}{K:Frag}{k:Jg}{names:List String}(I:IniAt h K k names)(kp:∀b o,h.get? b=Ja o->A.get? b=Ja o):IniAt A K k names:=by
 obtain⟨M,N,nm,q,bs,sn,sub,w,D,U,v,P,X,y,F,Y,H,V,S,d,C,a,t,T,G,f,J,W,B,c,n,p,O,u,g,i,m,s,l⟩:=I;exact⟨M,N,nm,q,bs,sn,sub,w,D,U,v,P,X,y,F,Y,H,V,S,d,kp _ _ C,a.keeps kp,t,T.keeps kp,kp _ _ G,f,J,W.keeps kp,B,c,n,p,O,u,g,i,m,s,l⟩
end
section
open PySem.W PyProof.Rows
theorem yo{h:Ji}{ps:List String}{o:Jp}{f:Jr}(d:h.get? a=Ja o)(W:o.data= .func f)(R:f.body= .stmts body)(e:fnB h ps f=Jc):FnIn h ps a o f body:=by
 obtain⟨F,L,H,D⟩:=and4 e;have b:=and3 F;have Z:=and3 L;have O:=and3 H;have c:=and3 D;obtain⟨s,k,z,N,q⟩:=ij Z.2.2;have nd:ps.Nodup:=Y6 O.2.1;refine⟨d,W,.of_ok b.1,R,List.isEmpty_iff.mp b.2.1,Y9 Z.1,Y9 Z.2.1,λv T=> ?_,O.1,nd,(Ka _).mp c.1,(Ka _).mp c.2.1,Y9 c.2.2,O.2.2⟩;have l:v.length=s.length:=by
  have:=Ub Ys q;rw[Qd,Qd] at this;exact T.trans this.symm
 rw[<-q];exact ib N (Y9 b.2.2) (by rw[q];exact ck nd) l
inductive FnS(h:Ji)(ps:List String)(mt:Jk->List Jo->Bool)(a:Jg):Prop
 |mk (o:Jp) (fd:Jr) (body:List Jo) (F:FnIn h ps a o fd body) (c:o.cls= .type "function") (m:mt fd.scope body=Jc):FnS h ps mt a
theorem qm{ps:List String}{m:Jk->List Jo->Bool}(e:ou h ps m a=Jc):FnS h ps m a:=by
 obtain⟨o,w,T⟩:=cb e;obtain⟨F,X⟩:=Qg.mp T;obtain⟨d,f,u⟩:=cb X;obtain⟨b,R,V⟩:=cb u;obtain⟨q,N⟩:=Qg.mp V;exact⟨o,d,b,yo w (nN f) (nz R) q,Y9 F,N⟩
theorem FnS.keeps{h A:Ji}{ps:List String}{t:Jk->List Jo->Bool}(x:FnS h ps t a)(kp:∀b o,h.get? b=Ja o->A.get? b=Ja o):FnS A ps t a:=by obtain⟨o,f,b,F,c,m⟩:=x;exact⟨o,f,b,F.keeps kp,c,m⟩
inductive MethAt(h:Ji)(K:Frag)(c:Cls)(a:Jg)(t:Fn):Prop
 |mk (m:Jg) (p:bQ t.f=Jd) (n:mOf t.f∉ [c.f1,c.f2]) (e:findIn K (.ref a) (Qb (mOf t.f))=Ja (Ja (.ref m))) (ty:typeIn K (.ref m)=Ja (.type "function")) (F:FnS h t.ps (λsc b=>mSs sc t.b b) m):MethAt h K c a t
inductive ClsAt(h:Ji)(K:Frag)(c:Cls)(a:Jg):Prop
 |mk (fI:Jg) (N:NewAt h a fI [c.f1,c.f2]) (F:FnS h ["self",c.a1] (initM c) fI) (ga:findIn K (.ref a) "__getattribute__"=Ja (Ja (.builtin "object.__getattribute__"))) (gh:findIn K (.ref a) "__getattr__"=Ja Option.none) (dct:hasDictIn K a=Jc)
  (fl:∀f∈ [c.f1,c.f2],findIn K (.ref a) (Qb f)=Ja Option.none) (ms:∀t∈c.ms,MethAt h K c a t) (ne:c.f1≠c.f2):ClsAt h K c a
theorem oQ(h:tC l=Jc):X5 λS k U F O=>l=[S,k,U,F,Ja (.builtin "object.__new__"),O]:=⟨_,_,_,_,_,Y9 h⟩
theorem uI{h:Ji}{K:Frag}{c:Cls}{a:Jg}{t:Fn}(e:methB h K c a t=Jc):MethAt h K c a t:=by
 obtain⟨T,F,X⟩:=and3 e;obtain⟨m,N,p⟩:=cb X;obtain⟨J,w⟩:=Qg.mp p;have B:=jK N;refine⟨m,(Ka _).mp T,by simpa using F,?_,Y9 J,qm w⟩
 induction q:findIn K (.ref a) (Qb<|mOf t.f) with
 |none=>rw[q] at B;exact ns B
 |some u=>rw[q] at B;exact Ub Ja B
theorem yE{h:Ji}{K:Frag}{c:Cls}{a:Jg}(e:clsB h K c a=Jc):ClsAt h K c a:=by
 obtain⟨p,F,s,u⟩:=and4 e;obtain⟨o,w,V⟩:=cb p;obtain⟨d,v,q⟩:=cb V;obtain⟨A,S,L,P⟩:=and4 q;have g:=and3 A;have X:=and3 S;have T:=and3 L;obtain⟨I,j,B⟩:=cb P;obtain⟨H,G,U,y,O,E⟩:=oQ g.2.1;have C:=w.trans<|congrArg Ja (ue (Y9 g.1) (l5 v) (Y9 g.2.2) X.1 ((Ka _).mp X.2.1) E);rw[(Ka _).mp X.2.2] at C;have k:=and4 F;refine⟨I,⟨d.name,d.qualname,d.ns,d.bases,d.slotNames,d.subclasses,d.collection,o.dict,H,G,U,y,O,h.nsMap d.ns,C,.of_isNs T.1,jK j,Ke.mp T.2.1,λf m=> ?_⟩,qm B,Y9 k.1,Y9 k.2.1,k.2.2.1,λf m=>Y9<|Qy.mp k.2.2.2 f m,λt W=>uI<|Qy.mp s t W,Y6 u⟩;obtain⟨z1,z2⟩:=Qg.mp<|Qy.mp T.2.2 f m;exact⟨Ke.mp z1,by rw[typeLookup_type,builtinLookup_eq_fast,Y9 z2]⟩
theorem ClsAt.keeps{h A:Ji}{K:Frag}{c:Cls}{a:Jg}(x:ClsAt h K c a)(kp:∀b o,h.get? b=Ja o->A.get? b=Ja o):ClsAt A K c a:=by
 obtain⟨f,N,F,V,g,d,fl,s,L⟩:=x;exact⟨f,N.keeps kp,F.keeps kp,V,g,d,fl,λt W=>by obtain⟨m,p,n,e,y,F⟩:=s t W;exact⟨m,p,n,e,y,F.keeps kp⟩,L⟩
structure Seen(h:Ji)(K:Frag)(k:Kinds):Prop where
 kin:K.In h
 ok:jT K k=Jc
 ini:∀c∈k.inis,k.cs.contains c=Jc/\∃a,b6 K c=Ja a/\IniAt h K a (k.flds c)
 cls:∀c,k.cl=Ja c->∃a,b6 K "Bounds"=Ja a/\ClsAt h K c a
def hookE(k:Kinds):Hook where
 α:=Bool
 obs:=obsE k
 val:=λo0=>Jc
 says:=λo0 h=>∃K:Frag,Seen h K k
 of:=λo0 s e=>⟨_,je,(and3 e).1,λc C=>by
  obtain⟨N,p⟩:=Qg.mp<|Qy.mp (and3 e).2.1 c C;obtain⟨a,J,w⟩:=cb p;exact⟨N,a,J,xt w⟩,λc C=>by
  have p:=(and3 e).2.2;unfold clsK at p;rw[C] at p;obtain⟨a,J,w⟩:=cb p;exact⟨a,J,yE w⟩⟩
 keeps:=λo0 h A z kp=>by obtain⟨K,a⟩:=z;exact⟨K,a.kin.keeps kp,a.ok,λc C=>by obtain⟨N,b,p,J⟩:=a.ini c C;exact⟨N,b,p,J.keeps kp⟩,λc C=>by obtain⟨b,p,J⟩:=a.cls c C;exact⟨b,p,J.keeps kp⟩⟩
end
section
open PySem.W PyProof.Rows
def fnOK(p:Jn)(t:Fn):Bool:=
 match (recsOf p).find? λd=>d.name==Qb t.f with
 |some d=>lw t.ps d.params&&(t.ps.all λp=>d.scope.names.lookup (Qb p)==Ja .local||d.scope.names.lookup (Qb p)==Ja .cell)&&decide t.ps.Nodup&& !d.scope.isCoroutine&& !d.scope.isGenerator&&
   d.scope.kind== .function&&(d.scope.names.all λp=>p.2 != .free)&&mSs d.scope t.b d.body&&bQ t.f
 |none=>Jd
noncomputable def valIs:Option YQ->PV->Bool
 |some (.int j),.int i=>j==i
 |some (.str j),.str i=>j==Qb i
 |_,_=>Jd
def topOK(p:Jn)(loose:List Jq)(gl:List (String×PV))(tab:List Fn):Bool:=
 (tab.all (fnOK p))&&(bltNames.all λx=> !startupNames.contains (Qb x)&& !loose.contains (Qb x)&& !((recsOf p).map (·.name)).contains (Qb x)&& !((litsOf p).map (·.1)).contains (Qb x)&&
  !((clssOf p loose).map (·.name)).contains (Qb x))&&gl.all λq=>valIs (valOf p (Qb q.1)) q.2
def pU(p:Jn)(loose:List Jq)(k:Kinds):Bool:=
 (k.mks.all λc=>k.cs.contains c&&specOf p (Qb c)==Ja ("ValueError.__new__",bmV)&&(k.flds c).isEmpty)&& !k.cs.contains "ValueError"&&
 (!startupNames.contains (Qb "ValueError")&& !loose.contains (Qb "ValueError")&& !((recsOf p).map (·.name)).contains (Qb "ValueError")&& !((litsOf p).map (·.1)).contains (Qb "ValueError")&&
  !((clssOf p loose).map (·.name)).contains (Qb "ValueError"))
def fvC(K:Frag)(k:Kinds)(f:String):Option Jf:=k.cl.bind λc=>(b6 K "Bounds").bind λa=>if f="Bounds" then Ja (.ref a) else if c.ms.any (·.f==f) then(findIn K (.ref a)<|Qb (mOf f)).getD Jb else Jb
def cxE(prog:Jn)(w:Jm)(B:Ji)(mg:Jq->Option Jf)(tab:List Fn)(K:Frag)(k:Kinds):Cx:=
 {prog,w,B,cls:=λc=>if k.cs.contains c then b6 K c else Jb,fv:=λf=>if tab.any (·.f==f) then mg (Qb f) else fvC K k f,ok:=True,calm:=True,K,flds:=k.flds,icl:=k.cl.bind λo0=>b6 K "Bounds"}
noncomputable def gxE(gl:List (String×PV))(tab:List Fn)(k:Kinds):Gx:=
 {glob:=λx=>gl.lookup x,sub:=k.sub,full:=Jc,fn:=λf=>tab.any (·.f==f)||k.cl.any λc=>f=="Bounds"||c.ms.any (·.f==f),calm:=Jc,cs:=k.cs,mks:=k.mks,inis:=k.inis,flds:=k.flds}
theorem nb{h:Ji}{o:Jp}(d:h.get? a=Ja o)(v:o.data= .func f):Looks M h (keeperOf (.ref a)) .frame:=by
 intro A Q E s q X;unfold keeperOf;refine YG<|wpAny_load (q a o d) ?_;rw[v];exact YH X
section
variable{prog p:Jn}{w:Jm}{B:Ji}{mg mb:Jq->Option Jf}{loose:List Jq}{mean:ExcName->Option Jf}{gl:List (String×PV)}{tab:List Fn}{K:Frag}{k:Kinds}
theorem wH(T:Top p loose mean mg mb B){t:Fn}(W:t∈tab)(h:fnOK p t=Jc):X4 λa o f body=>FnAt (cxE prog w B mg tab K k) t.f t.ps t.b a o f body/\mg (Qb t.f)=Ja (.ref a):=by
 unfold fnOK at h
 induction q:(recsOf p).find? λd=>d.name==Qb t.f with
 |none=>rw[q] at h;exact ft h
 |some d=>
  rw[q] at h;simp only[QZ,Ka,Ua,beq_iff_eq] at h;obtain⟨⟨⟨⟨⟨⟨⟨⟨N,Y⟩,J⟩,O⟩,b⟩,C⟩,S⟩,y⟩,i⟩:=h;have n:d.name=Qb t.f:=by simpa using List.find?_some q
  obtain⟨a,o,m,c,P,e,F,X,u⟩:=T.fn d<|List.mem_of_find?_eq_some q;obtain⟨s,g,z,U,Z⟩:=ij N;rw[n] at e;refine⟨a,o,_,d.body,⟨⟨F,X,u,rfl,rfl,rfl,rfl,λv r=> ?_,Y,J,O,b,C,S⟩,?_,⟨.frame,.inl rfl,nb F X⟩,y⟩,e⟩
  rotate_left
  ·show(if tab.any (·.f==t.f) then mg (Qb t.f) else fvC K k t.f)=_;rw[Y8 (Wl.mpr ⟨t,W,by simp⟩)];exact e
  ·have l:v.length=s.length:=by
    have:=Ub Ys Z;simp only[Qd] at this;exact r.trans this.symm
   rw[<-Z];exact ib U rfl (by rw[Z];exact ck J) l
theorem lC(X:K.In B)(N:B.Ns JA mg)(e:b6 K c=Ja a):mg (Qb c)=Ja (.ref a):=by
 unfold b6 at e
 induction h:nsIn K JA (Qb c) with
 |none=>rw[h] at e;exact ns e
 |some o=>induction o with
  |none=>rw[h] at e;exact ns e
  |some v=>
   rw[h] at e
   induction v using Value.casesOn with
   |ref b=>obtain rfl:=sj e;exact vR X N h
   |_=>exact ns e
theorem qX{tab:List Fn}(h:tab.all (fnOK p)=Jc)(j:tab.any (·.f==f)=Jc):bQ f=Jc:=by
 obtain⟨t,W,e⟩:=Wl.mp j;have e:t.f=f:=Y9 e;subst e;have h:=Qy.mp h t W;unfold fnOK at h
 induction v:(recsOf p).find? λd=>d.name==Qb t.f with
 |none=>rw[v] at h;exact ft h
 |some d=>rw[v] at h;exact(Qg.mp h).2
inductive FvS(B:Ji)(K:Frag)(k:Kinds)(f:String)(v:Jf):Prop
 |cls (c:Cls) (a:Jg) (h:k.cl=Ja c) (ha:b6 K "Bounds"=Ja a) (S:ClsAt B K c a) (e:f="Bounds") (ev:v= .ref a):FvS B K k f v
 |me (c:Cls) (a m:Jg) (t:Fn) (h:k.cl=Ja c) (ha:b6 K "Bounds"=Ja a) (S:ClsAt B K c a) (ht:t∈c.ms) (e:t.f=f) (p:bQ f=Jd) (n:mOf f∉ [c.f1,c.f2]) (q:findIn K (.ref a) (Qb (mOf f))=Ja (Ja (.ref m))) (ty:typeIn K (.ref m)=Ja (.type "function")) (F:FnS B t.ps (λsc b=>mSs sc t.b b) m) (ev:v= .ref m):FvS B K k f v
theorem pR(l:∀c,k.cl=Ja c->∃a,b6 K "Bounds"=Ja a/\ClsAt B K c a)(h:fvC K k f=Ja v):FvS B K k f v:=by
 obtain⟨c,C,h⟩:=Qn.mp h;obtain⟨a,T,h⟩:=Qn.mp h;obtain⟨Y,X,S⟩:=l c C;obtain rfl:=sj<|T.symm.trans X;by_cases q:f="Bounds"
 ·rw[Y8 q] at h;exact .cls c a C T S q (sj h).symm
 ·rw[Y7 q] at h;by_cases z:c.ms.any (·.f==f)=Jc
  ·rw[Y8 z] at h;obtain⟨t,W,e⟩:=Wl.mp z;have e:t.f=f:=Y9 e;subst e;obtain⟨I,N,F,V,g,d,fl,s,L⟩:=id S;obtain⟨m,p,n,e,y,F⟩:=s t W;rw[e] at h;exact .me c a m t C T S W rfl p n e y F (sj h).symm
  ·rw[Y7 z] at h;exact ns h
theorem qo(h:k.cl=Ja c)(T:b6 K "Bounds"=Ja a):fvC K k "Bounds"=Ja (.ref a):=by
 unfold fvC;rw[h,T,KO,KO];exact Y8 rfl
theorem tL{c:Cls}{t:Fn}(C:k.cl=Ja c)(T:b6 K "Bounds"=Ja a)(h:t∈c.ms)(p:bQ t.f=Jd)(e:findIn K (.ref a) (Qb (mOf t.f))=Ja (Ja (.ref m))):fvC K k t.f=Ja (.ref m):=by
 unfold fvC;rw[C,T,KO,KO,Y7<|λq=>by rw[q] at p;exact absurd p<|by decide,Y8<|Wl.mpr ⟨t,h,beq_self_eq_true t.f⟩,e];rfl
theorem wu{C:Cx}{ps:List String}{t:Jk->List Jo->Bool}(F:FnS C.B ps t m):Kp C (.ref m):=by obtain⟨o,f,b,F,o0,o0⟩:=F;exact⟨.frame,.inl rfl,nb F.ho F.hd⟩
theorem xB(T:Top p loose mean mg mb B)(X:K.In B)(l:∀c,k.cl=Ja c->∃a,b6 K "Bounds"=Ja a/\ClsAt B K c a)(h:topOK p loose gl tab=Jc):GOK (cxE prog w B mg tab K k) (gxE gl tab k) mg mb:=by
 unfold topOK at h;simp only[QZ] at h;obtain⟨⟨I,Y⟩,J⟩:=h;refine⟨T.g,T.b,T.nolimit,λx hx=> ?_,λx q U=> ?_,(λo0=>trivial),λo0=>trivial,λf v g W=> ?_,λf W=> ?_⟩
 ·have:=Qy.mp Y x hx;simp only[QZ,Ka,List.contains_eq_mem,decide_eq_false_iff_not] at this;obtain⟨⟨⟨⟨a,b⟩,c⟩,d⟩,e⟩:=this;refine⟨T.free _ a b c d e,T.builtins _ λq=> ?_⟩;exact absurd (show "__name__"∈bltNames from ofString_inj q▸hx)<|by decide
 ·have V:gl.lookup x=Ja q:=U;have Q:(x,q)∈gl:=by
   clear J I Y U
   induction gl with
   |nil=>simp at V
   |cons a r P=>
    obtain⟨y,j⟩:=a;by_cases e:x=y
    ·subst e;simp at V;subst V;exact KZ
    ·rw[Yv,beq_eq_false_iff_ne.mpr e] at V;exact KB _<|P V
  have:=Qy.mp J _ Q
  induction E:valOf p (Qb x) with
  |none=>rw[E] at this;exact ft this
  |some d=>
   rw[E] at this;obtain⟨v,L,R⟩:=T.const _ _ E;refine⟨v,L,λσ h=> ?_⟩;have s:=R h
   induction d using PyData.casesOn with
   |int j=>induction q using PV.casesOn with
    |int i=>
     have e:j=i:=Y9 this;subst e;cases s;exact⟨_,rfl⟩
    |_=>exact ft this
   |str j=>induction q using PV.casesOn with
    |str i=>
     have e:j=Qb i:=Y9 this;subst e;cases s;exact⟨_,rfl⟩
    |_=>exact ft this
   |_=>exact ft this
 ·show mg _=_;replace W:(if tab.any (·.f==f) then mg (Qb f) else fvC K k f)=Ja v:=W;by_cases q:tab.any (·.f==f)=Jc
  ·rw[Y8 q] at W;exact W
  ·rw[Y7 q] at W
   rcases pR l W with⟨c,a,h,D,S,rfl,rfl⟩|⟨c,a,m,t,h,D,S,H,e,A,o0⟩
   ·exact lC X T.g D
   ·exact tf<|g.symm.trans A
 ·by_cases q:tab.any (·.f==f)=Jc
  ·obtain⟨t,H,e⟩:=Wl.mp q;have e:t.f=f:=by simpa using e
   subst e;obtain⟨a,o,fd,M,F,L⟩:=wH (prog:=prog) (w:=w) (tab:=tab) (K:=K) (k:=k) T H<|Qy.mp I t H;exact⟨.ref a,F.fv,F.kp⟩
  ·have W:k.cl.any (λc=>f=="Bounds"||c.ms.any (·.f==f))=Jc:=(Bool.or_eq_true_iff.mp W).resolve_left q;have G:∀v,fvC K k f=Ja v->(cxE prog w B mg tab K k).fv f=Ja v:=λv e=>(Y7 q).trans e;obtain⟨c,Z,W⟩:=cb W;obtain⟨a,D,S⟩:=l c Z;obtain⟨fI,N,F,ga,gh,O,fl,u,ne⟩:=S
   rcases Bool.or_eq_true_iff.mp W with z|z
   ·obtain rfl:=Y9 z;exact⟨.ref a,G _<|qo Z D,NewAt.kp (C:=cxE prog w B mg tab K k) N⟩
   ·obtain⟨t,H,e⟩:=Wl.mp z;have e:t.f=f:=Y9 e;subst e;obtain⟨m,p,n,e,ty,F⟩:=u t H;exact⟨.ref m,G _<|tL Z D H p e,wu (C:=cxE prog w B mg tab K k) F⟩
end
section
variable{prog p:Jn}{w:Jm}{B:Ji}{mg mb:Jq->Option Jf}{loose:List Jq}{mean:ExcName->Option Jf}{gl:List (String×PV)}{tab:List Fn}{K:Frag}{k:Kinds}
theorem kg(h:jT K k=Jc)(C:k.cs.contains c=Jc):∃a,A3 (b6 K c=Ja a) (∀f∈k.flds c,findIn K (.ref a) (Qb f)=Ja Jb) (∀d b,k.cs.contains d=Jc->b6 K d=Ja b->exmOne K (.ref a) (.ref b)=Ja (k.sub c d)):=by
 have N:=Qy.mp h c (by simpa using C);unfold tA at N
 induction e:b6 K c with
 |none=>rw[e] at N;exact ft N
 |some a=>
  rw[e] at N;obtain⟨W,O⟩:=and2 N;refine⟨a,rfl,λf j=>beq_iff_eq.mp<|Qy.mp W f j,λd b v R=> ?_⟩;have n:=Qy.mp O d (by simpa using v);rw[R] at n;exact beq_iff_eq.mp n
theorem xx(T:Top p loose mean mg mb B)(X:K.In B)(h:jT K k=Jc)(i:∀c∈k.inis,k.cs.contains c=Jc/\∃a,b6 K c=Ja a/\IniAt B K a (k.flds c))(hp:pU p loose k=Jc)(g:∀c,k.cl=Ja c->∃a,b6 K "Bounds"=Ja a/\ClsAt B K c a)(j:∀c,k.cl=Ja c->k.flds "Bounds"=[c.f1,c.f2])(y:∀f,tab.any (·.f==f)=Jc->bQ f=Jc):ExcOK (cxE prog w B mg tab K k) (gxE gl tab k) mg mb:=by
 obtain⟨o,aa,ab⟩:=and3 hp;have l:∀ {c:String} {a:Jg},(cxE prog w B mg tab K k).cls c=Ja a->k.cs.contains c=Jc/\b6 K c=Ja a:=λ{c a} e=>by
  have e:(if k.cs.contains c then b6 K c else Jb)=Ja a:=e;by_cases q:k.cs.contains c=Jc
  ·rw[Y8 q] at e;exact⟨q,e⟩
  ·exact ns<|(Y7 q).symm.trans e
 have s:∀c,k.cs.contains c=Jc->∃a,(cxE prog w B mg tab K k).cls c=Ja a:=λc C=>by
  obtain⟨a,e,o0⟩:=kg h C;exact⟨a,(Y8 C).trans e⟩
 refine⟨X,λc a e=>lC X T.g (l e).2,s,λc C=> ?_,λc a d b P R=> ?_,λc=>rfl,λc C=> ?_,λc a f e W=> ?_,λc C=> ?_,λc a e L=> ?_,λa e=> ?_⟩
 ·have C:k.mks.contains c=Jc:=C;exact s c (and3<|Qy.mp o c (by simpa using C)).1
 ·obtain⟨Y,Q⟩:=l P;obtain⟨q3,I⟩:=l R;obtain⟨M,E,o0,u⟩:=kg h Y;obtain rfl:=sj<|Q.symm.trans E;exact u d b q3 I
 ·have C:k.mks.contains c=Jc:=C;exact List.isEmpty_iff.mp (and3<|Qy.mp o c (by simpa using C)).2.2
 ·obtain⟨Y,Q⟩:=l e;obtain⟨M,E,u,o0⟩:=kg h Y;obtain rfl:=sj<|Q.symm.trans E;exact u f W
 ·have C:k.inis.contains c=Jc:=C;obtain⟨G,a,U,h3⟩:=i c (by simpa using C);exact⟨a,(Y8 G).trans U,h3⟩
 ·have L:k.mks.contains c=Jc:=L;have hs:=beq_iff_eq.mp (and3<|Qy.mp o c (by simpa using L)).2.1;obtain⟨C',O,o0⟩:=T.ownAt hs;have P:=lC X T.g (l e).2;have R:=O.bound;rw[P] at R;cases R;exact O.own
 ·obtain⟨c,C,A⟩:=Qn.mp (show(k.cl.bind λo0=>b6 K "Bounds")=Ja a from e);obtain⟨M,H,S⟩:=g c C;obtain rfl:=sj<|A.symm.trans H;obtain⟨fI,N,F,ga,r,J,fl,ms,ne⟩:=S;refine⟨ga,r,J,λf W=>fl f<|j c C▸W,λf v Z hv=> ?_⟩;have hv:(if tab.any (·.f==f) then mg (Qb f) else fvC K k f)=Ja v:=hv;by_cases q:tab.any (·.f==f)=Jc
  ·exact tf<|(y f q).symm.trans Z
  ·rw[Y7 q] at hv
   rcases pR g hv with⟨c',D,h,V,S,rfl,rfl⟩|⟨c',D,m,t,h,V,S,ht,e,pp,n,q,ty,F,rfl⟩
   ·exact tf<|(show bQ "Bounds"=Jc by decide).symm.trans Z
   ·obtain rfl:=sj<|A.symm.trans V;obtain rfl:=sj<|C.symm.trans h;exact⟨m,rfl,q,ty,λx hx z=>n<|ofString_inj z▸(j c C▸hx:x∈ [c.f1,c.f2])⟩
end
end
section
set_option backward.match.sparseCases true
open PySem.W PyProof.Rows
theorem lp:∀ {xs:List WData},WShape.hasItems [] xs .int=Jc->∃ns:List Int,xs=ns.map .int
 |[]=>λo0=>⟨[],rfl⟩
 |x::xs=>λh=>by
  have h:(WShape.has [] x .int&&WShape.hasItems [] xs .int)=Jc:=h;obtain⟨N,p⟩:=Qg.mp h;obtain⟨ns,rfl⟩:=lp p;have:∃i,x= .int i:=by
   exact hasW_int N
  obtain⟨i,rfl⟩:=this;exact⟨i::ns,rfl⟩
theorem t3:WShape.has [] (.bool Jc) .bool=Jc:=by decide+kernel
theorem rf:WTm.holds [] (.eq .res (.lit (.bool Jc))) {args:=a,res:=Ja (.bool Jc),after:=b}=Jc:=by
 have h:W.same (.bool Jc) (.bool Jc)=Jc:=by decide+kernel
 show(match Ja (WData.bool (W.same (.bool Jc) (.bool Jc))) with
  |some (.bool Jc)=>Jc
  |_=>Jd)=Jc
 rw[h]
theorem yO{xs:List WData}(h:63<xs.length):WTm.holds [] (.and (.not (.lt (.lit (.int (63:Nat))) (.len (.arg 0)))) (.lit (.bool Jc))) {args:=[.list xs]}=Jd:=by
 have e:less? (.int (63:Nat)) (.int (xs.length:Nat))=Ja Jc:=by simp[less?,Num.less?];exact Kj.mpr h
 have v:WTm.value [] (.lt (.lit<|.int (63:Nat))<|.len (.arg 0)) {args:=[.list xs]}=Ja (.bool Jc):=Ub (Wx WData.bool) e;have n:WTm.value [] (.not<|.lt (.lit<|.int (63:Nat)) (.len<|.arg 0)) {args:=[.list xs]}=Ja (.bool Jd):=by
  show(match WTm.value [] (.lt (.lit (.int (63:Nat))) (.len (.arg 0))) {args:=[.list xs]} with
   |some (.bool b)=>Ja<|WData.bool (!b)
   |_=>Jb)=_
  rw[v];rfl
 have M:WTm.value [] (.and (.not<|.lt (.lit<|.int (63:Nat)) (.len<|.arg 0))<|.lit (.bool Jc)) {args:=[.list xs]}=Ja (.bool Jd):=by
  show(match WTm.value [] (.not (.lt (.lit (.int (63:Nat))) (.len (.arg 0)))) {args:=[.list xs]} with
   |some (.bool Jd)=>Ja<|WData.bool Jd
   |some (.bool Jc)=>(match WTm.value [] (.lit (.bool Jc)) {args:=[.list xs]} with
    |some (.bool x)=>Ja<|.bool x
    |_=>Jb)
   |_=>Jb)=_
  rw[n]
 unfold WTm.holds;rw[M]
theorem t1{l:OpenLaw}(m:l.most=Ja 63)(b:l.bound=Jb){args:List WData}(h:l.row.toRowW.claim.pre args=Jc):∃ns:List Int,args=[.list (ns.map .int)]/\ns.length<=63:=by
 have h:(WShape.hasAll [] args [.list .int]&&(OpenLaw.pre l).holds [] {args:=args})=Jc:=h;simp only[QZ] at h;obtain⟨N,p⟩:=h
 match args,N with
 |[x],N=>
  have hx:∃s,x= .list s/\WShape.hasItems [] s .int=Jc:=by
   have N:(WShape.has [] x (.list .int)&&WShape.hasAll [] [] [])=Jc:=N;have N:=(Qg.mp N).1;exact hasW_list N
  obtain⟨s,rfl,hx⟩:=hx;obtain⟨ns,rfl⟩:=lp hx;refine⟨ns,rfl,?_⟩;unfold OpenLaw.pre at p;rw[m,b] at p;by_cases T:ns.length<=63
  ·exact T
  ·rw[yO (by rw[Qd];exact Nat.not_le.mp T)] at p;exact ft p
 |[],N=>exact absurd N QF
 |x::y::r,N=>
  have N:(WShape.has [] x (.list .int)&&WShape.hasAll [] (y::r) [])=Jc:=N;exact absurd (Qg.mp N).2 QF
theorem kI{c:Jq->Option Jg}:∀ {ns:List Int} {vs:List Jf} {as:List Jg},ReadsAllW [] c h vs (ns.map .int) as->vs.length=ns.length/\∀ (i:Nat) (k:Int),ns[i]? =Ja k->∃t,vs[i]? =Ja (Value.int k t)
 |[]=>λr=>by cases r;exact⟨rfl,λi k e=>by simp at e⟩
 |n::ns=>λr=>by
  cases r with
  |cons f M=>
   cases f;obtain⟨a,b⟩:=kI M;refine⟨by simp[a],λi k e=> ?_⟩
   induction i using Nat.casesOn with
   |zero=>simp at e;subst e;exact⟨_,rfl⟩
   |succ j=>simpa using b j k (by simpa using e)
noncomputable def noPH:PH:=λo0=>Jb
inductive ClsC(C:Cx)(c:Cls):Prop
 |mk (a:Jg) (icl:C.icl=Ja a) (fv:C.fv "Bounds"=Ja (.ref a)) (S:ClsAt C.B C.K c a) (fl:C.flds "Bounds"=[c.f1,c.f2]) (ms:∀t∈c.ms,X4 λa o fd body=>FnAt C t.f t.ps t.b a o fd body):ClsC C c
theorem zS{prog:Jn}{w:Jm}{B:Ji}{g:Jq->Option Jf}{tab:List Fn}{K:Frag}{k:Kinds}{c:Cls}(h:k.cl=Ja c)(J:∀c,k.cl=Ja c->∃a,b6 K "Bounds"=Ja a/\ClsAt B K c a)(j:∀c,k.cl=Ja c->k.flds "Bounds"=[c.f1,c.f2])(l:∀f,tab.any (·.f==f)=Jc->bQ f=Jc)(Y:tab.any (·.f=="Bounds")=Jd):ClsC (cxE prog w B g tab K k) c:=by
 obtain⟨a,T,S⟩:=J c h;obtain⟨D,N,F,z,Q,X,fl,s,G⟩:=id S;refine⟨a,?_,?_,S,j c h,λt W=> ?_⟩
 ·show(k.cl.bind λo0=>b6 K "Bounds")=_;rw[h];exact T
 ·show(if tab.any (·.f=="Bounds") then g (Qb "Bounds") else fvC K k "Bounds")=_;rw[Y7 (by rw[Y];exact QF)];exact qo h T
 ·obtain⟨m,p,n,e,y,F⟩:=s t W;obtain⟨o,d,b,I,V,L⟩:=id F;refine⟨m,o,d,b,I,?_,wu (C:=cxE prog w B g tab K k) F,L⟩;show(if tab.any (·.f==t.f) then g (Qb t.f) else fvC K k t.f)=_;rw[Y7 (λq=>QF<|p.symm.trans (l _ q))];exact tL h T W p e
set_option tactic.hygienic true in
theorem law_walk{l:OpenLaw}{XP:(Jq->Option Jf)->Ji->Prop}{d:DefRec}{E:List (Jq×Jl)}(R:List (String×PV))(tab:List Fn)(k:Kinds)
  (hm:l.most=Ja 63)(hb:l.bound=Jb)(hn:d.name=Qb "law")(h:topOK q (looseW q loose) R tab=Jc)(Q:pU q (looseW q loose) k=Jc)(u:tab.any (·.f=="law")=Jc)(hN:N<=300)(j:∀c,k.cl=Ja c->k.flds "Bounds"=[c.f1,c.f2])(O:tab.any (·.f=="Bounds")=Jd)
  (A:∀ (C:Cx) (g D:Jq->Option Jf),GOK C (gxE R tab k) g D->ExcOK C (gxE R tab k) g D->C.ok->(∀t∈tab,X4 λa o S body=>FnAt C t.f t.ps t.b a o S body)->(∀c,k.cl=Ja c->ClsC C c)->∀ns:List Int,ns.length<=63->aO C N "law" [.scr ns] noPH (λv o0=>v= .bool Jc) λo0 o0=>False):
  WalkO q loose XP (Hook.says<|hookE k) l.row.toRowW d E λf vs=>PySem.call f vs:=by
 intro w aa s g D G Y fa o pm cd ab dV kV ho hd ah hD Z hg args X as r J P ad ac;refine Ground.open G λT o0 o0 o0 o0=> ?_;obtain⟨K,z,V,H,B⟩:=Y;have y:∀f,tab.any (·.f==f)=Jc->bQ f=Jc:=λf hf=>by
  unfold topOK at h;simp only[QZ] at h;exact qX h.1.1 hf
 obtain⟨ns,rfl,L⟩:=t1 hm hb r;have hG:GOK (cxE l.row.toRowW.prog w s.heap g tab K k) (gxE R tab k) g D:=xB T z B h;have hF:∀t∈tab,X4 λa o S body=>FnAt (cxE l.row.toRowW.prog w s.heap g tab K k) t.f t.ps t.b a o S body:=λt W=>by
  unfold topOK at h;simp only[QZ] at h;obtain⟨a,o,S,body,F,o0⟩:=wH (prog:=l.row.toRowW.prog) (w:=w) (tab:=tab) (K:=K) (k:=k) T W<|Qy.mp h.1.1 t W;exact⟨a,o,S,body,F⟩
 obtain⟨v,hv,o0,U⟩:=A _ g D hG (xx T z V H Q B j y) trivial hF (λc hc=>zS hc B j y O) ns L;have hv:g (Qb "law")=Ja v:=by
  simp only[cxE] at hv;rw[Y8 u] at hv;exact hv
 rw[hn] at Z;obtain rfl:=sj<|Z.symm.trans hv;cases P with
 |cons r1 r2=>
  cases r2;cases r1 with
  |list e1 e2 e3 e4=>
   rename_i M o' vs n ae
   obtain⟨e5,e6⟩:=kI e4;have m:Sim (cxE l.row.toRowW.prog w s.heap g tab K k) noPH s.heap:=⟨λb o e=>e,λa o e=>by simp[noPH] at e,λa o e=>by simp[noPH] at e,λa o e=>by simp[noPH] at e⟩
   have ak:AOK (cxE l.row.toRowW.prog w s.heap g tab K k) N callerA [] noPH s.heap:=by
    refine⟨?_,?_,rfl,λen he=>by simp at he,λo0=>rfl⟩
    ·show 1+claimMargin+N+2<JZ;unfold claimMargin JZ;exact zl (Kf (KH hN _) 2)<|by decide
    ·show 4+30*N+300<cLine;unfold cLine;exact zl (Kf (KH (WX 30 hN) 4) 300)<|by decide
   have I:VRs (cxE l.row.toRowW.prog w s.heap g tab K k) noPH s.heap [.scr ns] [.ref M]:=by
    refine⟨_,_,rfl,⟨M,o',n,vs,rfl,e1,e2,e3,by simpa using e5,λi k e=> ?_⟩,rfl⟩;obtain⟨t,W⟩:=e6 i k e;exact⟨t,by simpa using W⟩
   refine YI (U callerA [] s [.ref M] ak m I) (λv s' hv=> ?_) λo0 o0 x=>Vl.Internal.XP.none x;obtain⟨p,af,h1,h2,h3,h4,rfl⟩:=hv;change _=_ at h1;subst h1;refine GoodW.toG ⟨.inl ⟨.bool Jc,.bool Jc,[],rfl,λai=>rfl,.bool Jc,?_,λo0=>⟨List.nodup_nil,λa ha=>by cases ha⟩⟩,λb o e=>h2.base b o e,h4.2,h4.1.trans hg⟩;show(WShape.has [] (.bool Jc) .bool&&WTm.holds [] (.eq .res<|.lit (.bool Jc)) _)=Jc;rw[t3,rf];rfl
end
set_option genCtorIdx false in
inductive D where
 |none
 |bool(b:Bool)
 |int(i:Int)
 |str(s:String)
 |tup(l:List D)
 |list(l:List D)
 |scr(l:List Int)
 |hole
 |dict(ks:List (List KA))(l:List D)
 |inst(l:List D)
noncomputable abbrev D.ctorIdx(x:D):Nat:=D.casesOn x 0 (λo0=>1) (λo0=>2) (λo0=>3) (λo0=>4) (λo0=>5) (λo0=>6) 7 (λo0 o0=>8) (λo0=>9)
mutual
noncomputable def D.atom:D->Bool
 | .tup l=>D.atoms l
 | .list _=>Jd
 | .inst l=>D.atoms l
 | .dict _ _=>Jd
 |_=>Jc
noncomputable def D.atoms:List D->Bool
 |[]=>Jc
 |d::ds=>D.atom d&&D.atoms ds
end
mutual
noncomputable def RdF(σ:PH):D->PV->List Jg->Prop
 | .none,v,F=>v= .none/\F=[]
 | .bool b,v,F=>v= .bool b/\F=[]
 | .int i,v,F=>v= .int i/\F=[]
 | .str s,v,F=>v= .str s/\F=[]
 | .scr l,v,F=>(v= .scr l/\l.length<=lim)/\F=[]
 | .hole,_,F=>F=[]
 | .inst ds,v,F=>X3 λa d l=>A4 (v= .ref a) (σ a=Ja (.inst d)) (σ d=Ja (.fd "Bounds" l))<|RdFs σ ds l F
 | .dict ks ds,v,F=>X3 λa l G=>A5 (v= .ref a) (σ a=Ja (.dict ks l)) ((l.length<=lim/\ks.length=l.length)) (F=a::G)<|RdFs σ ds l G
 | .tup ds,v,F=>∃l,v= .tup l/\l.length<=lim/\RdFs σ ds l F
 | .list ds,v,F=>X3 λa l G=>A5 (v= .ref a) (σ a=Ja (.list l)) (l.length<=lim) (F=a::G)<|RdFs σ ds l G
noncomputable def RdFs(σ:PH):List D->List PV->List Jg->Prop
 |[],l,F=>l=[]/\F=[]
 |d::ds,l,F=>X4 λp ps j N=>A4 (l=p::ps) (F=j++N) (RdF σ d p j)<|RdFs σ ds ps N
end
noncomputable abbrev MO:={o:PO // o.fixed=Jd}
def Ext(σ σ':PH):Prop:=∀a o,σ a=Ja o->σ' a=Ja o
theorem Ext.refl(σ:PH):Ext σ σ:=λo0 o0 h=>h
theorem Ext.trans(x:Ext a b)(y:Ext b c):Ext a c:=λp o h=>y p o<|x p o h
theorem Ext.set{σ:PH}(h:σ a=Jb)(o:PO):Ext σ (σ.set a o):=λb p e=>by
 rw[PH.set_ne]
 ·exact e
 ·rintro rfl;exact ns<|h.symm.trans e
structure Ag(F:List Jg)(σ σ':PH):Prop where
 at_:∀a∈F,σ' a=σ a
 oth:∀a o,σ a=Ja o->o.fixed=Jc->σ' a=Ja o
theorem Ag.left(x:Ag (F++G) σ σ'):Ag F σ σ':=⟨λa h=>x.at_ a (Ql _ h),x.oth⟩
theorem Ag.right(x:Ag (F++G) σ σ'):Ag G σ σ':=⟨λa h=>x.at_ a (Qe _ h),x.oth⟩
theorem Ag.tail(x:Ag (a::G) σ σ'):Ag G σ σ':=⟨λb h=>x.at_ b (.tail _ h),x.oth⟩
mutual
theorem RdF.ag:∀ {d:D} {v:PV} {F:List Jg},RdF σ d v F->Ag F σ σ'->RdF σ' d v F
 | .none=>λr o0=>r
 | .bool _=>λr o0=>r
 | .int _=>λr o0=>r
 | .str _=>λr o0=>r
 | .scr _=>λr o0=>r
 | .hole=>λr o0=>r
 | .inst _=>λN x=>by obtain⟨a,d,l,E,h,J,w⟩:=N;exact⟨a,d,l,E,x.oth a _ h rfl,x.oth d _ J rfl,RdFs.ag w x⟩
 | .dict _ _=>λN x=>by obtain⟨a,l,G,E,h,J,w,B⟩:=N;exact⟨a,l,G,E,(x.at_ a<|w▸ .head _).trans h,J,w,RdFs.ag B (w▸x).tail⟩
 | .tup _=>λN x=>by obtain⟨l,E,h,J⟩:=N;exact⟨l,E,h,RdFs.ag J x⟩
 | .list _=>λN x=>by obtain⟨a,l,G,E,h,J,w,B⟩:=N;exact⟨a,l,G,E,(x.at_ a<|w▸ .head _).trans h,J,w,RdFs.ag B (w▸x).tail⟩
theorem RdFs.ag:∀ {ds:List D} {l:List PV} {F:List Jg},RdFs σ ds l F->Ag F σ σ'->RdFs σ' ds l F
 |[]=>λr o0=>r
 |_::_=>λN x=>by obtain⟨p,ps,j,q,E,h,J,w⟩:=N;exact⟨p,ps,j,q,E,h,RdF.ag J (h▸x).left,RdFs.ag w (h▸x).right⟩
end
mutual
theorem RdF.dom:∀ {d:D} {v:PV} {F:List Jg},RdF σ d v F->∀a∈F,∃l:MO,σ a=Ja l.1
 | .none=>λr a h=>by rw[r.2] at h;cases h
 | .bool _=>λr a h=>by rw[r.2] at h;cases h
 | .int _=>λr a h=>by rw[r.2] at h;cases h
 | .str _=>λr a h=>by rw[r.2] at h;cases h
 | .scr _=>λr a h=>by rw[r.2] at h;cases h
 | .hole=>λr a h=>by rw[show _=[] from r] at h;cases h
 | .inst _=>λN a h=>by obtain⟨o0,o0,l,E,Y,J,w⟩:=N;exact RdFs.dom w a h
 | .dict _ _=>λN a h=>by
  obtain⟨b,l,G,E,Y,J,w,B⟩:=N;rw[w] at h;cases h with
  |head=>exact⟨⟨_,rfl⟩,Y⟩
  |tail _ h=>exact RdFs.dom B a h
 | .tup _=>λN a h=>by obtain⟨l,E,Y,J⟩:=N;exact RdFs.dom J a h
 | .list _=>λN a h=>by
  obtain⟨b,l,G,E,Y,J,w,B⟩:=N;rw[w] at h;cases h with
  |head=>exact⟨⟨_,rfl⟩,Y⟩
  |tail _ h=>exact RdFs.dom B a h
theorem RdFs.dom:∀ {ds:List D} {l:List PV} {F:List Jg},RdFs σ ds l F->∀a∈F,∃l:MO,σ a=Ja l.1
 |[]=>λr a h=>by rw[r.2] at h;cases h
 |_::_=>λN a h=>by
  obtain⟨p,ps,j,q,E,Y,J,w⟩:=N;rw[Y] at h
  rcases Qt.mp h with h|h
  ·exact RdF.dom J a h
  ·exact RdFs.dom w a h
end
theorem Ag.of_ext(x:Ext σ σ')(h:∀a∈F,∃l:MO,σ a=Ja l.1):Ag F σ σ':=⟨λa T=>by obtain⟨l,e⟩:=h a T;exact(x a _ e).trans e.symm,λa o0 e o0=>x a _ e⟩
theorem RdF.ext{d:D}(r:RdF σ d v F)(x:Ext σ σ'):RdF σ' d v F:=r.ag<|.of_ext x r.dom
theorem RdFs.ext{d:List D}(r:RdFs σ d v F)(x:Ext σ σ'):RdFs σ' d v F:=r.ag<|.of_ext x r.dom
mutual
theorem RdF.atom:∀ {d:D} {v:PV} {F:List Jg},RdF σ d v F->d.atom=Jc->F=[]
 | .none=>λr o0=>r.2
 | .bool _=>λr o0=>r.2
 | .int _=>λr o0=>r.2
 | .str _=>λr o0=>r.2
 | .scr _=>λr o0=>r.2
 | .hole=>λr o0=>r
 | .inst _=>λN h=>by obtain⟨o0,o0,l,E,Y,J,w⟩:=N;exact RdFs.atom w h
 | .dict _ _=>λo0 h=>ft h
 | .tup _=>λN h=>by obtain⟨l,E,Y,J⟩:=N;exact RdFs.atom J h
 | .list _=>λo0 h=>ft h
theorem RdFs.atom:∀ {d:List D} {v:List PV} {F:List Jg},RdFs σ d v F->D.atoms d=Jc->F=[]
 |[]=>λr o0=>r.2
 |_::_=>λN h=>by
  obtain⟨p,ps,j,q,E,Y,J,w⟩:=N;obtain⟨a,b⟩:=Qg.mp h;rw[Y,RdF.atom J a,RdFs.atom w b];rfl
end
abbrev Tag:=Option<|List String
noncomputable def tj:Tag->Tag->Tag
 |none,t=>t
 |some a,Jb=>Ja a
 |some a,Ja b=>Ja<|a++b
noncomputable def tg0(d:D)(t:Tag):Tag:=cond d.atom Jb t
def tgl(l:List D)(t:Tag):Tag:=cond (D.atoms l) Jb t
noncomputable def tjs:List (D×Tag)->Tag
 |[]=>Jb
 |p::r=>tj p.2<|tjs r
noncomputable abbrev fsts(l:List (D×Tag)):List D:=l.map (·.1)
noncomputable abbrev flags(l:List (D×Tag)):List (D×Bool):=l.map λp=>(p.1,p.2.isNone)
abbrev DRho:=List<|String×Option (D×Bool)
noncomputable def DRho.get:DRho->String->Option (D×Bool)
 |[],_=>Option.none
 |(y,v)::r,x=>cond (y==x) v<|DRho.get r x
noncomputable def DRho.put:DRho->String->D×Bool->DRho
 |[],_,_=>[]
 |(y,o)::r,x,v=>cond (y==x) ((y,Ja v)::r) ((y,o)::DRho.put r x v)
theorem DRho.get_if(y:String)(v:Option (D×Bool))(r:DRho)(x:String):DRho.get ((y,v)::r) x=if y=x then v else DRho.get r x:=by
 show cond (y==x) _ _=_;by_cases h:y=x
 ·rw[Y8 h,beq_iff_eq.mpr h];rfl
 ·rw[Y7 h,beq_eq_false_iff_ne.mpr h];rfl
theorem DRho.put_if(y:String)(o:Option (D×Bool))(r:DRho)(x:String)(v:D×Bool):DRho.put ((y,o)::r) x v=if y=x then(y,Ja v)::r else(y,o)::DRho.put r x v:=by
 show cond (y==x) _ _=_;by_cases h:y=x
 ·rw[Y8 h,beq_iff_eq.mpr h];rfl
 ·rw[Y7 h,beq_eq_false_iff_ne.mpr h];rfl
noncomputable def hasS:List String->String->Bool
 |[],_=>Jd
 |y::r,x=>y==x||hasS r x
theorem lF(x:String):∀xs:List String,hasS xs x=xs.contains x
 |[]=>rfl
 |y::r=>by rw[KY,<-lF x r,Bool.beq_comm];rfl
noncomputable def DRho.puts:DRho->List String->List D->Bool->DRho
 |L,x::s,v::w,b=>DRho.puts (L.put x (v,b)) s w b
 |L,_,_,_=>L
def DRho.frz(L:DRho):Tag->DRho
 |Option.none=>L
 |some x=>L.map λp=>(p.1,cond (hasS x p.1) (p.2.map λq=>(q.1,q.1.atom&&q.2)) p.2)
noncomputable def Nb(x:String)(b:Bool)(v:D)(r:DRho):DRho:=(x,Ja (v,b))::r
noncomputable def No(x:String)(o:Option (D×Bool))(r:DRho):DRho:=(x,o)::r
abbrev DQ:=D->Tag->Prop
abbrev DX:=String->List D->Prop
structure DCl where
 c:String->List (D×Bool)->(D->Bool->Prop)->DX->Prop
 io:String->Nat->List (D×Bool)->(D->Prop)->Prop
instance:CoeFun DCl λo0=>String->List (D×Bool)->(D->Bool->Prop)->DX->Prop:=⟨DCl.c⟩
def dnew(l:List D)(t:Tag)(Q:DQ):Prop:=l.length<=lim/\Q (.list l) t
def dtup(l:List D)(t:Tag)(Q:DQ):Prop:=l.length<=lim/\Q (.tup l) t
noncomputable def dInt(K:Int->Prop):D->Prop
 | .int x=>K x
 |_=>False
noncomputable def dBool(K:Bool->Prop):D->Prop
 | .bool x=>K x
 |_=>False
noncomputable def dDct(K:List (List KA)->List D->Prop):D->Prop
 | .dict k l=>K k l
 |_=>False
inductive WitDD(K:List (List KA)->List D->Prop)(v:D):Prop
 |mk (ks:List (List KA)) (l:List D) (e:v= .dict ks l) (k:K ks l):WitDD K v
theorem mL{K:List (List KA)->List D->Prop}(h:dDct K v):WitDD K v:=by
 induction v using D.casesOn with
 |dict k l=>exact⟨k,l,rfl,h⟩
 |_=>exact h.elim
noncomputable def dLst(K:List D->Prop):D->Prop
 | .list x=>K x
 |_=>False
theorem cF{K:Int->Prop}(h:dInt K v):Wit D.int v K:=by
 induction v using D.casesOn with
 |int x=>exact⟨x,rfl,h⟩
 |_=>exact h.elim
theorem dM{K:Bool->Prop}(h:dBool K v):Wit D.bool v K:=by
 induction v using D.casesOn with
 |bool x=>exact⟨x,rfl,h⟩
 |_=>exact h.elim
theorem i0{K:List D->Prop}(h:dLst K v):Wit D.list v K:=by
 induction v using D.casesOn with
 |list x=>exact⟨x,rfl,h⟩
 |_=>exact h.elim
def dadd(a b:D)(t l:Tag)(Q:DQ):Prop:=
 match a with
 | .int x=>dInt (λy=>Q (.int (x+y)) Jb) b
 | .list x=>dLst (λy=>dnew (x++y) (tgl (x++y) (tj t l)) Q) b
 |_=>False
def dbin(o:BOp)(a b:D)(t l:Tag)(Q:DQ):Prop:=
 match o with
 | .add=>dadd a b t l Q
 | .sub=>dInt (λx=>dInt (λy=>Q (.int (x-y)) Jb) b) a
 | .mul=>dInt (λx=>dInt (λy=>(x.natAbs<2^64\/y.natAbs<2^64)/\Q (.int (x*y)) Jb) b) a
 | .fdiv=>dInt (λx=>dInt (λy=>y≠0/\y.natAbs<1073741824/\Q (.int (x.fdiv y)) Jb) b) a
 | .mod=>dInt (λx=>dInt (λy=>y≠0/\Q (.int (x.fmod y)) Jb) b) a
 | .pow _=>dInt (λx=>dInt (λy=>0<=y/\y<=1000/\x.natAbs<2^64/\Q (.int (x^y.toNat)) Jb) b) a
mutual
noncomputable def D.okd:Nat->D->Bool
 |_,.none=>Jc
 |_,.bool _=>Jc
 |_,.int _=>Jc
 |_,.str s=>PyData.strOk<|Qb s
 |n+1,.tup l=>D.okds n l
 |n+1,.list l=>D.okds n l
 |_,_=>Jd
noncomputable def D.okds:Nat->List D->Bool
 |_,[]=>Jc
 |n,d::ds=>D.okd n d&&D.okds n ds
end
mutual
noncomputable def D.py:D->YQ
 | .none=> .none
 | .bool b=> .bool b
 | .int i=> .int i
 | .str s=> .str (Qb s)
 | .tup l=> .tuple (D.pys l)
 | .list l=> .list (D.pys l)
 |_=> .none
noncomputable def D.pys:List D->List YQ
 |[]=>[]
 |d::ds=>D.py d::D.pys ds
end
noncomputable def D.eqv(a b:D):Bool:=PyData.eqv a.py b.py
def deq(a b:D)(Q:Bool->Prop):Prop:=(a.okd 40=Jc/\b.okd 40=Jc)/\Q (D.eqv a b)
noncomputable def kaD:D->Option KA
 | .int i=>Ja<|.n i
 | .str s=>Ja<|.t s
 |_=>Jb
noncomputable def kasD:List D->Option (List KA)
 |[]=>Ja []
 |p::r=>(kaD p).bind λk=>(kasD r).map (k:: ·)
def keyD:D->Option (List KA)
 | .tup l=>kasD l
 |_=>Jb
noncomputable def KA.d:KA->D
 | .n i=> .int i
 | .t s=> .str s
def keyDd(k:List KA):D:= .tup (k.map KA.d)
def dlook(ks:List (List KA))(l:List D)(k:List KA):Option D:=(kidx ks k).bind λj=>l[j]?
def dkset(ks:List (List KA))(l:List D)(k:List KA)(v:D):D:=match kidx ks k with
 |some j=> .dict ks (l.set j v)
 |none=> .dict (ks++[k]) (l++[v])
def din(a b:D)(Q:Bool->Prop):Prop:=match b with
 | .list l=>(a.okd 40=Jc/\D.okds 40 l=Jc)/\Q (l.any λd=>D.eqv d a)
 | .dict s _=>oK (λk=>Q (kidx s k).isSome) (keyD a)
 |_=>False
def drel(f:Int->Int->Bool)(a b:D)(Q:Bool->Prop):Prop:=dInt (λx=>dInt (λy=>Q (f x y)) b) a
def dcmp(o:COp)(a b:D)(Q:Bool->Prop):Prop:=
 match o with
 | .eq=>deq a b Q
 | .ne=>deq a b λr=>Q<|!r
 | .in_=>din a b Q
 | .nin=>din a b λr=>Q<|!r
 | .lt=>drel (λx y=>decide (x<y)) a b Q
 | .le=>drel (λx y=>decide (x<=y)) a b Q
 | .gt _=>drel (λx y=>decide (x>y)) a b Q
 | .ge=>drel (λx y=>decide (x>=y)) a b Q
noncomputable def dlen:D->Option Nat
 | .list l=>Ja l.length
 | .tup l=>Ja l.length
 | .scr l=>Ja l.length
 |_=>Jb
def dsub:D->D->Option D
 | .list l,.int k=>(place l.length k).bind λj=>l[j]?
 | .tup l,.int k=>(place l.length k).bind λj=>l[j]?
 | .scr l,.int k=>((place l.length k).bind λj=>l[j]?).map .int
 | .dict s l,i=>(keyD i).bind λk=>dlook s l k
 |_,_=>Jb
noncomputable def dInts:List D->Option (List Int)
 |[]=>Ja []
 | .int i::r=>(dInts r).map (i:: ·)
 |_=>Jb
noncomputable def hY:List D->Option (List Bool)
 |[]=>Ja []
 | .bool i::r=>(hY r).map (i:: ·)
 |_=>Jb
noncomputable def d1(K:D->Tag->Prop):List (D×Tag)->Prop
 |[(d,t)]=>K d t
 |_=>False
theorem yy{K:D->Tag->Prop}(h:d1 K l):∃d t,l=[(d,t)]/\K d t:=by
 rcases l with o0|⟨⟨d,t⟩,o0|⟨o0,o0⟩⟩<;>first|exact h.elim|exact⟨d,t,rfl,h⟩
noncomputable def d2(K:D->D->Prop):List (D×Tag)->Prop
 |[(a,_),(b,_)]=>K a b
 |_=>False
theorem yP{K:D->D->Prop}(h:d2 K l):X4 λa t b u=>l=[(a,t),(b,u)]/\K a b:=by
 rcases l with o0|⟨⟨a,t⟩,o0|⟨⟨b,u⟩,o0|⟨o0,o0⟩⟩⟩<;>first|exact h.elim|exact⟨a,t,b,u,rfl,h⟩
noncomputable def dPrOf:D->Option (Int×Int)
 | .tup [.int a,.int b]=>Ja (a,b)
 |_=>Jb
noncomputable def dPrs:List D->Option (List (Int×Int))
 |[]=>Ja []
 |p::r=>(dPrOf p).bind λx=>(dPrs r).map (x:: ·)
noncomputable def prD(p:Int×Int):D:= .tup [.int p.1,.int p.2]
noncomputable def dSeq(K:List D->Prop):D->Prop
 | .tup l=>K l
 | .list l=>K l
 |_=>False
def dList(Q:DQ)(t:Tag):D->Prop
 | .tup l=>Q (.list l)<|tgl l t
 | .list l=>Q (.list l)<|tgl l t
 | .dict s _=>(s.length<=lim/\∀k∈s,k.length<=lim)/\Q (.list<|s.map keyDd) Jb
 |_=>False
def dMin(Q:DQ)(args:List (D×Tag)):Prop:=d1 (λv o0=>dLst (λl=>oIs (λis=>is≠ []/\Q (.int (lmin is)) Jb) (dInts l)) v) args
def dbi(b:BI)(args:List (D×Tag))(Q:DQ):Prop:=
 match b with
 | .len=>d1 (λd o0=>oNat (λn=>Q (.int n) Jb) (dlen d)) args
 | .all=>d1 (λd o0=>dLst (λl=>oBs (λbs=>Q (.bool (bs.all id)) Jb) (hY l)) d) args
 | .sum=>d1 (λd o0=>dLst (λl=>oIs (λis=>Q (.int is.sum) Jb) (dInts l)) d) args
 | .int=>d1 (λd o0=>dBool (λx=>Q (.int (if x then 1 else 0)) Jb) d) args
 | .list=>d1 (λd t=>dList Q t d) args
 | .min=>dMin Q args
 | .sorted=>d1 (λd o0=>dLst (λl=>oIs (λis=>is.length<64/\∀js:List Int,js.Perm is->js.Pairwise (· <= ·)->Q (.list (js.map .int)) Jb) (dInts l)) d) args
 | .dict _=>d1 (λd o0=>dDct (λks l=>(ks≠ []/\(∀k∈ks,df k=Jc)/\D.atoms l=Jc)/\Q (.dict ks l) Jb) d) args
 | .max=>d1 (λv o0=>dLst (λl=>oIs (λis=>is≠ []/\Q (.int (lmax is)) Jb) (dInts l)) v) args
 | .min2=>d2 (λa b=>dInt (λx=>dInt (λy=>Q (.int (min x y)) Jb) b) a) args
 | .sortp=>d1 (λv o0=>dLst (λl=>oPs (λps=>(chkP ps=Jc/\(srtP ps).length<=1000)/\Q (.list ((srtP ps).map prD)) Jb) (dPrs l)) v) args
noncomputable def disi(G:Gx)(d:D)(t:List String):Option Bool:=
 match d with
 | .none=>Ja Jd
 | .str _=>Ja Jd
 | .bool _=>Ja (t.contains "bool"||t.contains "int")
 | .int _=>Ja<|t.contains "int"
 | .tup _=>Ja<|t.contains "tuple"
 | .list _=>Ja<|t.contains "list"
 |_=>Jb
noncomputable def dS1(K:D->Prop):List D->Prop
 |[v]=>K v
 |_=>False
theorem pC{K:D->Prop}(h:dS1 K l):∃v,l=[v]/\K v:=by
 rcases l with o0|⟨v,o0|⟨o0,o0⟩⟩<;>first|exact h.elim|exact⟨v,rfl,h⟩
def dsrc(k:IK)(vs:List D)(K:List D->Prop):Prop:=
 match k with
 | .val=>dS1 (λv=>dSeq K v) vs
 | .range=>dS1 (λv=>dInt (λn=>(-1000000<n/\n<=1000000)/\K ((Qc n.toNat).map λ(i:Nat)=> .int i)) v) vs
noncomputable def dU:Tg->D->Bool->DRho->Option DRho
 | .name x,v,b,L=>Ja<|L.put x (v,b)
 | .tup s,.tup w,b,L=>if w.length=s.length then Ja (L.puts s w b) else Jb
 |_,_,_,_=>Jb
noncomputable def gx(tg:Tg)(L:DRho):DRho:=(".0",Jb)::((tg.names.map λx=>(x,Jb))++L)
def bp(tg:Tg)(v:D)(L:DRho):Option DRho:=dU tg v Jd<|gx tg L
noncomputable def dOR(K:DRho->Prop):Option DRho->Prop
 |some v=>K v
 |none=>False
theorem f9{K:DRho->Prop}(h:dOR K o):Wit Ja o K:=by
 induction o with
 |none=>exact h.elim
 |some v=>exact⟨v,rfl,h⟩
noncomputable def dOD(K:D->Prop):Option D->Prop
 |some v=>K v
 |none=>False
theorem fT{K:D->Prop}(h:dOD K o):Wit Ja o K:=by
 induction o with
 |none=>exact h.elim
 |some v=>exact⟨v,rfl,h⟩
noncomputable def dOE(K:D×Bool->Prop):Option (D×Bool)->Prop
 |some v=>K v
 |none=>False
theorem dB{K:D×Bool->Prop}(h:dOE K o):Wit Ja o K:=by
 induction o with
 |none=>exact h.elim
 |some v=>exact⟨v,rfl,h⟩
noncomputable def hZ:D->Bool
 | .hole=>Jc
 |_=>Jd
noncomputable def D.isNone:D->Bool
 | .none=>Jc
 |_=>Jd
def jp(f:List D->List D)(ok:Nat->Prop)(t:Tag)(Q:DQ):D->Prop
 | .list l=>Q (.list<|f l)<|tgl (f l) t
 |_=>False
noncomputable def dglob(Q:DQ):Option PV->Prop
 |some (.int i)=>Q (.int i) Jb
 |some (.str i)=>Q (.str i) Jb
 |_=>False
def tout(ns:List String)(t:Tag):Tag->Tag
 |none=>Jb
 |some s=>tj (Ja (s.filter λx=> !ns.contains x)) t
noncomputable def dcomp(tg:Tg)(L:DRho)(s:Tag)(tst:DRho->(Bool->Prop)->Prop)(el:DRho->DQ->Prop):List D->List D->Tag->(List D->Tag->Prop)->Prop
 |[],a,t,K=>K a t
 |x::w,a,t,K=>dOR (λP=>tst P λb=>cond b (el P λd u=>dcomp tg L s tst el w (a++[d]) (tj t (tout tg.names s u)) K) (dcomp tg L s tst el w a t K)) (bp tg x L)
def dget(t:Tag)(Q:DQ):Option D->Prop
 |some d=>Q d<|tg0 d t
 |none=>Q (.list []) Jb
noncomputable def dfld(G:Gx)(f:String):D->Option D
 | .inst l=>((G.flds "Bounds").idxOf? f).bind λj=>l[j]?
 |_=>Jb
noncomputable def dIns:D->Prop
 | .inst _=>True
 |_=>False
mutual
noncomputable def dwe(G:Gx)(cl:DCl):E->DRho->DQ->DX->Prop
 | .none,_,Q,_=>Q .none Jb
 | .bool b,_,Q,_=>Q (.bool b) Jb
 | .int i,_,Q,_=>Q (.int i) Jb
 | .str s,_,Q,_=>Q (.str s) Jb
 | .loc x,Δ,Q,_=>dOE (λp=>Q p.1 (tg0 p.1 (Ja [x]))) (Δ.get x)
 | .glob x,_,Q,_=>dglob Q<|G.glob x
 | .bin op a b,Δ,Q,X=>dwe G cl a Δ (λva ta=>dwe G cl b Δ (λvb tb=>dbin op va vb ta tb Q) X) X
 | .not_ a,Δ,Q,X=>dwe G cl a Δ (λv o0=>dBool (λb=>Q (.bool !b) Jb) v) X
 | .and_ a b,Δ,Q,X=>dwe G cl a Δ (λv o0=>dBool (λb'=>cond b' (dwe G cl b Δ Q X) (Q (.bool Jd) Jb)) v) X
 | .or_ a b,Δ,Q,X=>dwe G cl a Δ (λv o0=>dBool (λb'=>cond b' (Q (.bool Jc) Jb) (dwe G cl b Δ Q X)) v) X
 | .isNone a,Δ,Q,X=>dwe G cl a Δ (λv o0=>hZ v=Jd/\Q (.bool v.isNone) Jb) X
 | .notNone a,Δ,Q,X=>dwe G cl a Δ (λv o0=>hZ v=Jd/\Q (.bool !v.isNone) Jb) X
 | .cmp op a b,Δ,Q,X=>dwe G cl a Δ (λva o0=>dwe G cl b Δ (λvb o0=>dcmp op va vb λr=>Q (.bool r) Jb) X) X
 | .cmp2 a o1 b o2 c,Δ,Q,X=>dwe G cl a Δ (λva o0=>dwe G cl b Δ (λvb o0=>dcmp o1 va vb λr=>
   cond r (dwe G cl c Δ (λvc o0=>dcmp o2 vb vc λr=>Q (.bool r) Jb) X) (Q (.bool Jd) Jb)) X) X
 | .tup l,Δ,Q,X=>dwes G cl l Δ (λvs=>dtup (fsts vs) (tjs vs) Q) X
 | .list l,Δ,Q,X=>dwes G cl l Δ (λvs=>dnew (fsts vs) (tjs vs) Q) X
 | .sub a i,Δ,Q,X=>dwe G cl a Δ (λva ta=>dwe G cl i Δ (λvi o0=>dOD (λv=>Q v (tg0 v ta)) (dsub va vi)) X) X
 | .upto a hi,Δ,Q,X=>dwe G cl a Δ (λva ta=>dwe G cl hi Δ (λvi o0=>dInt (λk=>jp (λl=>l.take (cut l.length k)) (λn=>0<=k/\k<n) ta Q va) vi) X) X
 | .from_ a lo,Δ,Q,X=>dwe G cl a Δ (λva ta=>dwe G cl lo Δ (λvi o0=>dInt (λk=>jp (λl=>l.drop (cut l.length k)) (λn=>1<=k/\k<=n) ta Q va) vi) X) X
 | .comp elt tg k it,Δ,Q,X=>G.calm=Jc/\dwes G cl it Δ (λvs=>dsrc k (fsts vs) λxs=>
   dcomp tg Δ (tjs vs) (λo0 K=>K Jc) (λΔ' K=>dwe G cl elt Δ' K λo0 o0=>False) xs [] Jb λacc t=>Q (.list acc) t) X
 | .compIf elt tg k it cond,Δ,Q,X=>G.calm=Jc/\dwes G cl it Δ (λvs=>dsrc k (fsts vs) λxs=>
   dcomp tg Δ (tjs vs) (λΔ' K=>dwe G cl cond Δ' (λv o0=>dBool K v) λo0 o0=>False) (λΔ' K=>dwe G cl elt Δ' K λo0 o0=>False) xs [] Jb λacc t=>Q (.list acc) t) X
 | .call f args,Δ,Q,X=>G.fn f=Jc/\dwes G cl args Δ (λvs=>cl f (flags vs) (λd b=>Q d (tg0 d (cond b Jb (tj (Ja []) (tjs vs))))) X) X
 | .bi b args,Δ,Q,X=>G.calm=Jc/\dwes G cl args Δ (λvs=>dbi b vs Q) X
 | .isi a ts,Δ,Q,X=>stat ts=Jc/\dwe G cl a Δ (λv o0=>oB (λb=>Q (.bool b) Jb) (disi G v ts)) X
 | .meth ..,_,_,_=>False
 | .dict0,_,Q,_=>G.full=Jc/\Q (.dict [] []) Jb
 | .get a k,Δ,Q,X=>dwe G cl a Δ (λva ta=>dDct (λks l=>dwe G cl k Δ (λvk o0=>oK (λk=>dget ta Q (dlook ks l k)) (keyD vk)) X) va) X
 | .sd ..,_,_,_=>False
 | .attr x f,Δ,Q,_=>dOE (λp=>dOD (λd=>Q d (tg0 d (Ja [x]))) (dfld G f p.1)) (Δ.get x)
 | .lr a,Δ,Q,X=>G.calm=Jc/\dwe G cl a Δ (λva o0=>dInt (λn=>(0<=n/\n<=1000)/\Q (.list ((Qc n.toNat).map λ(i:Nat)=> .int i)) Jb) va) X
 | .mcall f o args,Δ,Q,X=>G.fn f=Jc/\dwe G cl o Δ (λdr tr=>dIns dr/\dwes G cl args Δ (λvs=>cl f (flags ((dr,tr)::vs)) (λd b=>Q d (tg0 d (cond b Jb (tj (Ja []) (tjs ((dr,tr)::vs)))))) X) X) X
noncomputable def dwes(G:Gx)(cl:DCl):List E->DRho->(List (D×Tag)->Prop)->DX->Prop
 |[],_,Q,_=>Q []
 |e::es,Δ,Q,X=>dwe G cl e Δ (λv t=>dwes G cl es Δ (λvs=>Q ((v,t)::vs)) X) X
end
noncomputable abbrev Disj(F G:List Jg):Prop:=∀a∈F,a∉G
structure PartOK(σ:PH)(fp:String->List Jg)(t:Tag)(F:List Jg):Prop where
 own:t=Jb->F.Nodup/\∀a∈F,σ a=Jb
 al:∀xs,t=Ja xs->∀a∈F,σ a=Jb\/∃x∈xs,a∈fp x
structure ER(σ:PH)(fp:String->List Jg)(σ':PH)(d:D)(t:Tag)(v:PV)(F:List Jg):Prop where
 rd:RdF σ' d v F
 ext:Ext σ σ'
 part:PartOK σ fp t F
noncomputable def fset(f:String->List Jg)(x:String)(F:List Jg):String->List Jg:=λy=>if y=x then F else f y
theorem cM{f:String->List Jg}:fset f x F x=F:=Y8 rfl
theorem b7{f:String->List Jg}(h:y≠x):fset f x F y=f y:=Y7 h
structure EnvE(σ:PH)(Δ:DRho)(ρ:Rho)(fp:String->List Jg):Prop where
 at_:∀x d b,Δ.get x=Ja (d,b)->∃v,ρ.get x=Ja v/\RdF σ d v (fp x)
 dom:∀x,∀a∈fp x,∃l:MO,σ a=Ja l.1
 keys:Δ.map (·.1)=ρ.map (·.1)
theorem EnvE.ext{f:String->List Jg}(h:EnvE σ j L f)(x:Ext σ σ'):EnvE σ' j L f:=⟨λy d b e=>by obtain⟨v,N,p⟩:=h.at_ y d b e;exact⟨v,N,p.ext x⟩,λy a T=>by obtain⟨l,e⟩:=h.dom y a T;exact⟨l,x a _ e⟩,h.keys⟩
theorem Ext.new(x:Ext σ σ')(h:σ' a=Jb):σ a=Jb:=by
 induction e:σ a with
 |none=>rfl
 |some o=>exact sn<|(x a o e).symm.trans h
theorem PartOK.nil{f:String->List Jg}:PartOK σ f t []:=⟨λo0=>⟨.nil,λa h=>(bN h)⟩,λx o0 a h=>(bN h)⟩
theorem PartOK.from{f:String->List Jg}(h:PartOK σ1 f t F)(x:Ext σ σ1):PartOK σ f t F:=
 ⟨λe=>⟨(h.own e).1,λa T=>x.new<|(h.own e).2 a T⟩,λs e a T=>(h.al s e a T).imp_left x.new⟩
theorem ER.from{f:String->List Jg}{d:D}(h:ER σ1 f σ' d t v F)(x:Ext σ σ1):ER σ f σ' d t v F:=⟨h.rd,x.trans h.ext,h.part.from x⟩
theorem ER.at0{f:String->List Jg}{d:D}(x:Ext σ σ')(r:RdF σ' d v []):ER σ f σ' d t v []:=⟨r,x,.nil⟩
theorem PartOK.tg0{f:String->List Jg}{d:D}(h:PartOK σ f t F)(r:RdF σ' d v F):PartOK σ f (tg0 d t) F:=by
 unfold Vl.Internal.tg0
 induction e:d.atom with
 |true=>rw[r.atom e];exact .nil
 |false=>exact h
theorem PartOK.tgl{f:String->List Jg}{d:List D}(h:PartOK σ f t F)(r:RdFs σ' d v F):PartOK σ f (tgl d t) F:=by
 unfold Vl.Internal.tgl
 induction e:D.atoms d with
 |true=>rw[r.atom e];exact .nil
 |false=>exact h
theorem mc(h:tj a b=Jb):a=Jb/\b=Jb:=by
 induction a with
 |none=>exact⟨rfl,h⟩
 |some x=>rcases b with⟨⟩<;>exact sn h
theorem tG(h:tj a b=Ja xs):(∀ys,a=Ja ys->∀y∈ys,y∈xs)/\(∀ys,b=Ja ys->∀y∈ys,y∈xs):=by
 induction a with
 |none=>exact⟨λys e=>(ns e),λys e y W=>by cases h.symm.trans e;exact W⟩
 |some x=>induction b with
  |none=>obtain rfl:=sj h;exact⟨λys e y W=>by obtain rfl:=sj e;exact W,λys e=>(ns e)⟩
  |some y=>obtain rfl:=sj h;exact⟨λys e z v=>by obtain rfl:=sj e;exact Ql _ v,λys e z v=>by obtain rfl:=sj e;exact Qe _ v⟩
theorem PartOK.wide{f:String->List Jg}(h:PartOK σ f t F)(k:∀ys,t=Ja ys->∀y∈ys,y∈xs):PartOK σ f (Ja xs) F:=
 ⟨λe=>(sn e),λzs e a T=>by
  obtain rfl:=sj e
  induction W:t with
  |none=>exact .inl<|(h.own W).2 a T
  |some ys=>exact(h.al ys W a T).imp_right λz=>by obtain⟨x,hx,w⟩:=z;exact⟨x,k ys W x hx,w⟩⟩
theorem PartOK.join{f:String->List Jg}(h:PartOK σ f s F)(k:PartOK σ f t G)(d:s=Jb->t=Jb->Disj F G):PartOK σ f (tj s t) (F++G):=by
 refine⟨λe=> ?_,λx e a T=> ?_⟩
 ·obtain⟨p,w⟩:=mc e;refine⟨Qv.mpr ⟨(h.own p).1,(k.own w).1,λa T b R q=>d p w a T<|q▸R⟩,λa T=> ?_⟩
  rcases Qt.mp T with T|T
  ·exact(h.own p).2 a T
  ·exact(k.own w).2 a T
 ·obtain⟨c,m⟩:=tG e
  rcases Qt.mp T with T|T
  ·exact(h.wide c).al x rfl a T
  ·exact(k.wide m).al x rfl a T
theorem PartOK.sub{f:String->List Jg}{F G:List Jg}(h:PartOK σ f t F)(s:G.Sublist F):PartOK σ f t G:=
 ⟨λe=>⟨(h.own e).1.sublist s,λa T=>(h.own e).2 a (s.subset T)⟩,λx e a T=>h.al x e a<|s.subset T⟩
theorem PartOK.cons{fp:String->List Jg}(h:PartOK σ fp t F)(ha:σ a=Jb)(hf:a∉F):PartOK σ fp t (a::F):=
 ⟨λe=>⟨QA.mpr ⟨hf,(h.own e).1⟩,λb hb=>by cases hb with|head=>exact ha|tail _ hb=>exact(h.own e).2 b hb⟩,
  λxs e b hb=>by cases hb with|head=>exact .inl ha|tail _ hb=>exact h.al xs e b hb⟩
inductive ERs(σ:PH)(fp:String->List Jg)(σ':PH):List (D×Tag)->List PV->List (List Jg)->Prop
 |nil:ERs σ fp σ' [] [] []
 |cons {d:D} {t:Tag} {v:PV} {F:List Jg} {ds:List (D×Tag)} {vs:List PV} {Fs:List (List Jg)}:RdF σ' d v F->PartOK σ fp t F->
   (∀p∈ds.zip Fs,(t=Option.none\/p.1.2=Option.none)->Disj F p.2)->ERs σ fp σ' ds vs Fs->ERs σ fp σ' ((d,t)::ds) (v::vs) (F::Fs)
theorem ERs.rds{f:String->List Jg}{F:List (List Jg)}(h:ERs σ f σ' ds vs F):RdFs σ' (fsts ds) vs F.flatten:=by
 induction h with
 |nil=>exact⟨rfl,rfl⟩
 |cons r p q h i=>exact⟨_,_,_,_,rfl,rfl,r,i⟩
theorem ERs.lens{f:String->List Jg}{ds:List (D×Tag)}{vs:List PV}{F:List (List Jg)}(h:ERs σ f σ' ds vs F):vs.length=ds.length/\F.length=ds.length:=by
 induction h with
 |nil=>exact⟨rfl,rfl⟩
 |cons r p q h i=>exact⟨Ub (· +1) i.1,Ub (· +1) i.2⟩
theorem ERs.part{f:String->List Jg}{s:List (List Jg)}(h:ERs σ f σ' ds vs s):PartOK σ f (tjs ds) s.flatten:=by
 induction h with
 |nil=>exact .nil
 |@cons d t v F ds vs s r p q h W=>
  refine p.join W λe w a T b=> ?_;obtain⟨G,C,b⟩:=List.mem_flatten.mp b;obtain⟨i,V,rfl⟩:=KT C;have l:=h.lens.2;exact q (ds[i],s[i]) (List.mem_iff_getElem.mpr ⟨i,by rw[List.length_zip];exact Nat.lt_min.mpr ⟨zq V l,V⟩,List.getElem_zip⟩) (.inl e) a T b
def ir(O:List Jg)(σ σ':PH):Prop:=∀a o,σ a=Ja o->a∉O->σ' a=Ja o
structure ResOK(σ:PH)(O As:List Jg)(σ':PH)(d:D)(b:Bool)(v:PV)(F:List Jg):Prop where
 rd:RdF σ' d v F
 kept:ir O σ σ'
 own:b=Jc->F.Nodup/\∀a∈F,σ a=Jb\/a∈O
 al:∀a∈F,σ a=Jb\/a∈As
structure ResX(σ:PH)(O:List Jg)(σ':PH)(ds:List D)(ws:List PV)(F:List Jg):Prop where
 rd:RdFs σ' ds ws F
 kept:ir O σ σ'
 nd:F.Nodup
 own:∀a∈F,σ a=Jb\/a∈O
structure XOK(σ σ':PH)(ds:List D)(ws:List PV)(F:List Jg):Prop where
 rd:RdFs σ' ds ws F
 ext:Ext σ σ'
 nd:F.Nodup
 own:∀a∈F,σ a=Jb
theorem XOK.from{ws:List PV}(h:XOK σ1 σ' ds ws F)(x:Ext σ σ1):XOK σ σ' ds ws F:=⟨h.rd,x.trans h.ext,h.nd,λa T=>x.new (h.own a T)⟩
inductive ArgsR(σ:PH):List (D×Bool)->List PV->List (List Jg)->Prop
 |nil:ArgsR σ [] [] []
 |cons {d:D} {b:Bool} {v:PV} {F:List Jg} {ds:List (D×Bool)} {vs:List PV} {Fs:List (List Jg)}:RdF σ d v F->(b=Jc->F.Nodup)->
   (∀p∈ds.zip Fs,(b=Jc\/p.1.2=Jc)->Disj F p.2)->ArgsR σ ds vs Fs->ArgsR σ ((d,b)::ds) (v::vs) (F::Fs)
noncomputable def owned:List (D×Bool)->List (List Jg)->List Jg
 |(_,b)::d,F::s=>(if b then F else [])++owned d s
 |_,_=>[]
def xI(cv:Cl)(f:String)(args:List (D×Bool))(Q:D->Bool->Prop)(X:DX):Prop:=∀ (t:PH) (w:List PV) (s:List (List Jg)) (r:Post) (H:XPost),ArgsR t args w s->
 (∀d b v T F,Q d b->ResOK t (owned args s) s.flatten T d b v F->r v T)->(∀c z ws T F,X c z->ResX t (owned args s) T z ws F->H ⟨c,ws⟩ T)->cv f w t r H
structure IoOK(σ:PH)(O:List Jg)(σ':PH)(d:D)(v:PV)(F:List Jg):Prop where
 rd:RdF σ' d v F
 nd:F.Nodup
 own:∀a∈F,σ a=Jb\/a∈O
 kept:ir O σ σ'
def xf(cv:Cl)(f:String)(i:Nat)(args:List (D×Bool))(Q:D->Prop):Prop:=∀ (t:PH) (s:List PV) (w:List (List Jg)) (r:Post) (H:XPost) (v:PV),ArgsR t args s w->s[i]? =Ja v->
 (∀d X F,Q d->IoOK t (owned args w) X d v F->r .none X)->cv f s t r H
noncomputable def aR(cv:Cl):DCl:=⟨xI cv,xf cv⟩
theorem ERs.args{f:String->List Jg}(h:ERs σ f σ' ds vs s):ArgsR σ' (flags ds) vs s:=by
 induction h with
 |nil=>exact .nil
 |@cons d t v F ds vs s r p q h i=>
  refine .cons r (λe=>(p.own<|Ke.mp e).1) (λx hx e=> ?_) i;rw[List.zip_map_left] at hx;obtain⟨y,W,rfl⟩:=Qi.mp hx;exact q y W<|e.imp Ke.mp Ke.mp
theorem ERs.owned{f:String->List Jg}(h:ERs σ f σ' ds vs s):∀a∈owned (flags ds) s,σ a=Jb:=by
 induction h with
 |nil=>intro a T;cases T
 |@cons d t v F ds vs s r p q h i=>
  intro a T
  rcases Qt.mp (show a∈(if t.isNone then F else [])++Vl.Internal.owned (flags ds) s from T) with T|T
  ·induction t with
   |none=>exact(p.own rfl).2 a T
   |some x=>cases T
  ·exact i a T
section
variable(G:Gx)(cv:Cl)
def DOK(e:E):Prop:=∀ (j:DRho) (L:Rho) (f:String->List Jg) (W:PH) (Q:DQ) (X:DX) (r:Post) (H:XPost),EnvE W j L f->dwe G (aR cv) e j Q X->
 (∀d t v T F,Q d t->ER W f T d t v F->r v T)->(∀c s ws T F,X c s->XOK W T s ws F->H ⟨c,ws⟩ T)->we G cv e L W r H
def DOKs(es:List E):Prop:=∀ (j:DRho) (L:Rho) (f:String->List Jg) (t:PH) (Q:List (D×Tag)->Prop) (X:DX) (r:List PV->PH->Prop) (H:XPost),EnvE t j L f->dwes G (aR cv) es j Q X->
 (∀d v T s,Q d->Ext t T->ERs t f T d v s->r v T)->(∀c d ws T F,X c d->XOK t T d ws F->H ⟨c,ws⟩ T)->wes G cv es L t r H
end
noncomputable abbrev keysD(L:DRho):List String:=L.map (·.1)
noncomputable abbrev keysR(L:Rho):List String:=L.map (·.1)
theorem DRho.get_put_ne(h:y≠x):∀ (L:DRho),(L.put x v).get y=L.get y
 |[]=>rfl
 |(z,o)::r=>by
  by_cases T:z=x
  ·have:z≠y:=λq=>h<|q.symm.trans T;simp only[DRho.put_if,T,if_true,DRho.get_if];rw[Y7 (λq=>h q.symm),Y7 (λq=>h q.symm)]
  ·simp only[DRho.put_if,T,if_false,DRho.get_if,DRho.get_put_ne h r]
theorem DRho.get_put:∀ (L:DRho),x∈keysD L->(L.put x v).get x=Ja v
 |(z,o)::r,h=>by
  by_cases T:z=x
  ·simp only[DRho.put_if,T,if_true,DRho.get_if]
  ·simp only[DRho.put_if,T,if_false,DRho.get_if];exact DRho.get_put r<|by simpa [Ne.symm T] using h
theorem DRho.get_mem:∀ (L:DRho),L.get x=Ja v->x∈keysD L
 |(z,o)::r,h=>by
  by_cases T:z=x
  ·subst T;exact .head _
  ·simp only[DRho.get_if,T,if_false] at h;exact .tail _<|DRho.get_mem r h
theorem DRho.put_keys:∀ (L:DRho),keysD (L.put x v)=keysD L
 |[]=>rfl
 |(z,o)::r=>by
  by_cases h:z=x
  ·simp only[DRho.put_if,h,if_true,keysD,Qw]
  ·simp only[DRho.put_if,h,if_false,keysD,Qw];exact Ub _<|DRho.put_keys r
theorem Rho.gput_ne(h:y≠x):∀ (L:Rho),(L.put x v).get y=L.get y
 |[]=>rfl
 |(z,o)::r=>by
  by_cases T:z=x
  ·simp only[Rho.put_c,T,if_true,Rho.get_c];rw[Y7 (λq=>h q.symm),Y7 (λq=>h q.symm)]
  ·simp only[Rho.put_c,T,if_false,Rho.get_c,Rho.gput_ne h r]
theorem Rho.gput:∀ (L:Rho),x∈keysR L->(L.put x v).get x=Ja v
 |(z,o)::r,h=>by
  by_cases T:z=x
  ·simp only[Rho.put_c,T,if_true,Rho.get_c]
  ·simp only[Rho.put_c,T,if_false,Rho.get_c];exact Rho.gput r<|by simpa [Ne.symm T] using h
theorem Rho.put_keys:∀ (L:Rho),keysR (L.put x v)=keysR L
 |[]=>rfl
 |(z,o)::r=>by
  by_cases h:z=x
  ·simp only[Rho.put_c,h,if_true,keysR,Qw]
  ·simp only[Rho.put_c,h,if_false,keysR,Qw];exact Ub _<|Rho.put_keys r
theorem EnvE.put{L:DRho}{A:Rho}{f:String->List Jg}(h:EnvE σ L A f){d:D}(r:RdF σ d v F):
  EnvE σ (L.put x (d,b)) (A.put x v) (fset f x F):=by
 refine⟨λy X c e=> ?_,λy a T=> ?_,(DRho.put_keys _).trans (h.keys.trans (Rho.put_keys _).symm)⟩
 rotate_left
 ·by_cases W:y=x
  ·subst W;rw[cM] at T;exact r.dom a T
  ·rw[b7 W] at T;exact h.dom y a T
 by_cases W:y=x
 ·subst W;rw[cM];have m:y∈keysD L:=by
   have:=DRho.get_mem _ e
   rwa [DRho.put_keys] at this
  rw[DRho.get_put _ m] at e;cases e;exact⟨v,Rho.gput _<|by rw[show keysR A=keysD L from h.keys.symm];exact m,r⟩
 ·rw[b7 W];rw[DRho.get_put_ne W] at e;rw[Rho.gput_ne W];exact h.at_ y X c e
theorem EnvE.puts:∀ (xs:List String) (ds:List D) (vs:List PV) (F:List Jg) (Δ:DRho) (ρ:Rho) (fp:String->List Jg),EnvE σ Δ ρ fp->xs.length=ds.length->RdFs σ ds vs F->
  vs.length=xs.length/\∃fp',EnvE σ (Δ.puts xs ds b) (ρ.puts xs vs) fp'/\keysD (Δ.puts xs ds b)=keysD Δ/\∀y a,a∈fp' y->(y∈xs/\a∈F)\/(y∉xs/\a∈fp y):=by
 intro xs
 induction xs with
 |nil=>
  intro ds vs F Δ ρ fp h hl r
  induction ds using List.casesOn with
  |cons=>cases hl
  |nil=>
   obtain⟨rfl,rfl⟩:=r;exact⟨rfl,fp,h,rfl,λy a ha=> .inr ⟨KC,ha⟩⟩
 |cons x xs ih=>
  intro ds vs F Δ ρ fp h hl rr0
  induction ds using List.casesOn with
  |nil=>cases hl
  |cons d ds=>
   obtain⟨p,ps,F1,F2,e1,e2,r1,r2⟩:=rr0;subst e1 e2;obtain⟨l1,fp',h1,h3,h4⟩:=ih ds ps F2 _ _ _ (h.put (b:=b) r1) (Nat.succ.inj hl) r2;refine⟨Ub (· +1) l1,fp',h1,h3.trans<|DRho.put_keys _,λy a ha=> ?_⟩
   rcases h4 y a ha with⟨q1,q2⟩|⟨q1,q2⟩
   ·exact .inl ⟨.tail _ q1,Qe _ q2⟩
   ·by_cases hy:y=x
    ·rw[hy,cM] at q2;exact .inl ⟨hy▸ .head _,Ql _ q2⟩
    ·rw[b7 hy] at q2;exact .inr ⟨λm=>by cases m with|head=>exact hy rfl|tail _ m=>exact q1 m,q2⟩
theorem EnvE.bindT{tg:Tg}{d:D}{p:String->List Jg}(h:EnvE σ L A p)(r:RdF σ d v F)(e:dU tg d b L=Ja P):
  X2 λρ' f=>A4 (bindT tg v A=Ja ρ') (EnvE σ P ρ' f) (keysD P=keysD L) (∀y a,a∈f y->(y∈tg.names/\a∈F)\/(y∉tg.names/\a∈p y)):=by
 induction tg with
 |name x=>
  obtain rfl:=sj e;refine⟨_,_,rfl,h.put r,DRho.put_keys _,λy a T=> ?_⟩;by_cases W:y=x
  ·rw[W,cM] at T;exact .inl ⟨W▸ .head _,T⟩
  ·rw[b7 W] at T;exact .inr ⟨λm=>W<|Qk.mp m,T⟩
 |tup w=>
  induction d using D.casesOn with
  |tup s=>
   obtain⟨l,rfl,H,r⟩:=r;by_cases q:s.length=w.length
   ·have g:Ja (L.puts w s b)=Ja P:=by rw[<-e];exact(Y8 q).symm
    obtain rfl:=sj g;obtain⟨U,f,N,J,O⟩:=EnvE.puts (b:=b) w s l F L A p h q.symm r;exact⟨_,f,Y8 U,N,J,O⟩
   ·have g:Jb=Ja P:=by rw[<-e];exact(Y7 q).symm
    exact ns g
  |_=>first|exact bnx e|exact onx e|cases e
theorem DRho.get_app:∀ (xs:List String) (Δ:DRho),DRho.get ((xs.map λx=>(x,Option.none))++Δ) y=Ja q->y∉xs/\Δ.get y=Ja q
 |[]=>λΔ e=>⟨KC,e⟩
 |x::xs=>λΔ e=>by
  by_cases hx:x=y
  ·simp[DRho.get_if,hx] at e
  ·simp only[Qw,List.cons_append,DRho.get_if,hx,if_false] at e;obtain⟨h1,h2⟩:=DRho.get_app xs Δ e;exact⟨λm=>by cases m with|head=>exact hx rfl|tail _ m=>exact h1 m,h2⟩
theorem Rho.get_app:∀ (xs:List String) (L:Rho),y∉xs->Rho.get ((xs.map λx=>(x,Option.none))++L) y=L.get y
 |[]=>λL e=>rfl
 |x::xs=>λL e=>by
  have hx:x≠y:=λq=>e<|q▸ .head _;simp only[Qw,List.cons_append,Rho.get_c,hx,if_false];exact Rho.get_app xs L λm=>e<|.tail _ m
theorem EnvE.bindC{tg:Tg}{d:D}{u:String->List Jg}(h:EnvE σ L A u)(r:RdF σ d v F)(e:bp tg d L=Ja P):
  X2 λρ' f=>A3 (bindC tg v A=Ja ρ') (EnvE σ P ρ' f) (∀y a,a∈f y->(y∈tg.names/\a∈F)\/(y∉tg.names/\a∈u y)):=by
 have k:keysD (gx tg L)=keysR (blank tg A):=by
  simp only[keysD,keysR,gx,blank,Qw,QC,Qx];rw[show KQ (λx=>x.fst) L=KQ (λx=>x.fst) A from h.keys];rfl
 have i:EnvE σ (gx tg L) (blank tg A) u:=by
  refine⟨λy d b e=> ?_,h.dom,k⟩;by_cases W:".0"=y
  ·simp[gx,DRho.get_if,W] at e
  ·simp only[gx,DRho.get_if,W,if_false] at e;obtain⟨N,p⟩:=DRho.get_app _ _ e;obtain⟨v,J,w⟩:=h.at_ y d b p;refine⟨v,?_,w⟩;simp only[blank,Rho.get_c,W,if_false];rw[Rho.get_app _ _ N];exact J
 obtain⟨ρ',f,N,p,o0,w⟩:=i.bindT r e;exact⟨ρ',f,N,p,w⟩
mutual
theorem RdF.py:∀ {d:D} {n:Nat} {v:PV} {F:List Jg},RdF σ d v F->d.okd n=Jc->Rd σ d.py v/\d.py.canLay0=Jc/\d.py.depth<=n
 | .none,_,_,_,r,_=>⟨r.1,rfl,QN _⟩
 | .bool _,_,_,_,r,_=>⟨r.1,rfl,QN _⟩
 | .int _,_,_,_,r,_=>⟨r.1,rfl,QN _⟩
 | .str _,n,_,_,r,h=>⟨⟨_,r.1,rfl⟩,by rcases n with⟨⟩<;>exact h,QN _⟩
 | .tup l,n,_,_,r,h=>by
  induction n using Nat.casesOn with
  |zero=>exact bnx h
  |succ n=>
   obtain⟨vs,N,o0,Y⟩:=r;obtain⟨k,U,V⟩:=RdFs.py Y (show D.okds n l=Jc from h);exact⟨⟨vs,N,k⟩,U,KM V⟩
 | .list l,n,_,_,r,h=>by
  induction n using Nat.casesOn with
  |zero=>exact bnx h
  |succ n=>
   obtain⟨a,vs,o0,N,Y,o0,o0,J⟩:=r;obtain⟨k,U,V⟩:=RdFs.py J (show D.okds n l=Jc from h);exact⟨⟨a,vs,N,Y,k⟩,U,KM V⟩
 | .scr _,n,_,_,_,h=>by rcases n with⟨⟩<;>exact bnx h
 | .hole,n,_,_,_,h=>by rcases n with⟨⟩<;>exact bnx h
 | .inst _,n,_,_,_,h=>by rcases n with⟨⟩<;>exact bnx h
 | .dict _ _,n,_,_,_,h=>by rcases n with⟨⟩<;>exact bnx h
theorem RdFs.py:∀ {ds:List D} {n:Nat} {l:List PV} {F:List Jg},RdFs σ ds l F->D.okds n ds=Jc->Rds σ (D.pys ds) l/\PyData.canLayAll0 (D.pys ds)=Jc/\PyData.depthAll (D.pys ds)<=n
 |[],_,_,_,r,_=>⟨r.1,rfl,QN _⟩
 |d::ds,n,_,_,r,h=>by
  obtain⟨p,ps,o0,o0,N,o0,Y,J⟩:=r;obtain⟨T,e⟩:=Qg.mp (show(D.okd n d&&D.okds n ds)=Jc from h);obtain⟨k,U,V⟩:=RdF.py Y T;obtain⟨c,m,q⟩:=RdFs.py J e;exact⟨⟨p,ps,N,k,c⟩,Qg.mpr ⟨U,m⟩,Nat.max_le.mpr ⟨V,q⟩⟩
end
theorem zW{d:D}(r:RdF σ d v F)(h:kaD d=Ja k):kaOf v=Ja k:=by
 induction d using D.casesOn with
 |int i=>rw[r.1];exact h
 |str i=>rw[r.1];exact h
 |_=>first|exact bnx h|exact onx h|cases h
theorem ru:∀ {ds:List D} {l:List PV} {F:List Jg} {k:List KA},RdFs σ ds l F->kasD ds=Ja k->kasOf l=Ja k
 |[],_,_,_,r,h=>by rw[r.1];exact h
 |d::ds,_,_,k,r,h=>by
  obtain⟨p,ps,o0,o0,N,o0,Y,J⟩:=r;obtain⟨a,T,h⟩:=Qn.mp (show((kaD d).bind λk=>(kasD ds).map (k:: ·))=Ja k from h);obtain⟨b,e,rfl⟩:=Qs.mp h;rw[N];show((kaOf p).bind λk=>(kasOf ps).map (k:: ·))=_;rw[zW Y T,ru J e];rfl
theorem l8{d:D}(r:RdF σ d v F)(h:keyD d=Ja k):keyOf v=Ja k:=by
 induction d using D.casesOn with
 |tup l=>obtain⟨m,rfl,o0,r⟩:=r;exact ru r h
 |_=>first|exact bnx h|exact onx h|cases h
theorem rS{d:D}{K K':List KA->Prop}(r:RdF σ d v F)(h:oK K (keyD d))(k:∀x,K x->K' x):oK K' (keyOf v):=by
 obtain⟨x,e,h⟩:=hU h;rw[l8 r e];exact k x h
theorem tJ:∀k:List KA,RdFs σ (k.map KA.d) (k.map KA.pv) []
 |[]=>⟨rfl,rfl⟩
 |a::k=>⟨_,_,[],[],rfl,rfl,by rcases a with⟨⟩<;>exact⟨rfl,rfl⟩,tJ k⟩
section
variable{σ σ1 σ2 σ':PH}{fp:String->List Jg}{Δ:DRho}{ρ:Rho}
theorem PartOK.apart(f:∀x,∀a∈fp x,∃l:MO,σ a=Ja l.1)(M:Ext σ σ1)(pa:PartOK σ fp k F)(d:∀a∈F,∃l:MO,σ1 a=Ja l.1)(pb:PartOK σ1 fp t I)(h:k=Jb\/t=Jb):Disj F I:=λa T b=>by
 obtain⟨l,e⟩:=d a T
 induction t with
 |none=>have:=(pb.own rfl).2 a b;exact sn<|e.symm.trans this
 |some s=>
  have n:=(pa.own<|h.resolve_right λq=>by exact sn q).2 a T
  rcases pb.al s rfl a b with q|⟨x,o0,q⟩
  ·exact sn<|e.symm.trans q
  ·obtain⟨K,g⟩:=f x a q;exact ns<|n.symm.trans g
theorem cE{t:Tag}{ds:List D}{l:List PV}{F:List Jg}{Q:DQ}{Q':Post}(x:Ext σ σ')(r:RdFs σ' ds l F)(H:l.length<=lim)(p:PartOK σ fp t F)(q:Q (.list ds) t)
  (k:∀d t v σ' F,Q d t->ER σ fp σ' d t v F->Q' v σ'):wnew (.list l) σ' Q':=λa T=>by
 refine k _ _ _ _ (a::F) q ⟨⟨a,l,F,rfl,PH.set_same _ _ _,H,rfl,r.ext<|Ext.set T _⟩,x.trans<|Ext.set T _,p.cons (x.new T) λh=> ?_⟩;obtain⟨K,e⟩:=r.dom a h;exact ns<|T.symm.trans e
theorem RdFs.app{d e:List D}:∀ {l:List PV} {F:List Jg},RdFs σ d l F->RdFs σ e m G->RdFs σ (d++e) (l++m) (F++G):=by
 induction d with
 |nil=>intro l F h k;obtain⟨rfl,rfl⟩:=h;exact k
 |cons d s i=>
  intro l F h k;obtain⟨p,ps,j,N,E,Y,J,w⟩:=h;subst E Y;exact⟨p,ps++m,j,N++G,rfl,Ks _ _ _,J,i w k⟩
theorem RdFs.len{d:List D}:∀ {l:List PV} {F:List Jg},RdFs σ d l F->l.length=d.length:=by
 induction d with
 |nil=>intro l F h;rw[h.1];rfl
 |cons d s i=>intro l F h;obtain⟨p,ps,j,q,N,Y,J,w⟩:=h;rw[N];exact Ub (· +1)<|i w
theorem uA(xs:List String)(t:Tag):∃ys,tj (Ja xs) t=Ja ys/\∀zs,t=Ja zs->∀z∈zs,z∈ys:=by
 induction t with
 |none=>exact⟨xs,rfl,λzs e=>ns e⟩
 |some y=>exact⟨xs++y,rfl,λzs e z h=>by obtain rfl:=sj e;exact Qe _ h⟩
theorem vB(x:Ext σ σ')(C:RdF σ' a A O)(r:RdF σ' b Z I)(pa:PartOK σ fp B O)(pb:PartOK σ fp P I)
  (J:B=Jb->P=Jb->Disj O I)(h:dadd a b B P Q)(k:∀d t v σ' F,Q d t->ER σ fp σ' d t v F->Q' v σ'):wadd A Z σ' Q':=by
 induction a using D.casesOn with
 |int i=>
  obtain⟨j,rfl,h⟩:=cF h;obtain⟨rfl,rfl⟩:=C;obtain⟨rfl,rfl⟩:=r;exact k _ _ _ _ _ h<|.at0 x ⟨rfl,rfl⟩
 |list l=>
  obtain⟨m,rfl,h⟩:=i0 h;obtain⟨p,K,F,rfl,T,H,rfl,C⟩:=C;obtain⟨q,N,G,rfl,e,L,rfl,r⟩:=r;have z:(K++N).length<=lim:=by rw[(C.app r).len];exact h.1
  show onL σ' (λl=>onL σ' (λm=>wlist (l++m) σ' Q')<|.ref q) (.ref p);rw[jy T,jy e];exact⟨z,cE x (C.app r) z (((pa.sub<|Kq _ _).join (pb.sub<|Kq _ _) λT e c n W=>J T e c (.tail _ n)<|.tail _ W).tgl (C.app r)) h.2 k⟩
 |_=>exact h.elim
theorem wg(x:Ext σ σ')(C:RdF σ' a A O)(r:RdF σ' b q I)(pa:PartOK σ fp l O)(pb:PartOK σ fp B I)
  (J:l=Jb->B=Jb->Disj O I)(h:dbin o a b l B Q)(k:∀d t v σ' F,Q d t->ER σ fp σ' d t v F->Q' v σ'):wbin o A q σ' Q':=by
 have two:∀ {K:Int->Int->Prop} {W:Int->Int->Prop},dInt (λx=>dInt (λy=>K x y) b) a->(∀x y,K x y->W x y)->onInt (λx=>onInt (λy=>W x y) q) A:=λw k=>by
  obtain⟨i,e,w⟩:=cF w;obtain⟨j,g,w⟩:=cF w;subst e g;obtain⟨rfl,o0⟩:=C;obtain⟨rfl,o0⟩:=r;exact k i j w
 induction o with
 |add=>exact vB x C r pa pb J h k
 |mul=>exact two h λi j h=>⟨h.1,k _ _ _ _ _ h.2<|.at0 x ⟨rfl,rfl⟩⟩
 |sub=>exact two h λi j h=>k _ _ _ _ _ h<|.at0 x ⟨rfl,rfl⟩
 |fdiv=>exact two h λi j h=>⟨h.1,h.2.1,k _ _ _ _ _ h.2.2<|.at0 x ⟨rfl,rfl⟩⟩
 |mod=>exact two h λi j h=>⟨h.1,k _ _ _ _ _ h.2<|.at0 x ⟨rfl,rfl⟩⟩
 |pow=>exact two h λi j h=>⟨h.1,h.2.1,h.2.2.1,k _ _ _ _ _ h.2.2.2<|.at0 x ⟨rfl,rfl⟩⟩
theorem lx{d:D}(r:RdF σ d v F)(h:d.okd n=Jc)(o:n<=50):Rd σ d.py v/\okD d.py:=by
 obtain⟨N,p,J⟩:=r.py h;exact⟨N,p,Qq J o⟩
theorem pe:∀l:List D,D.pys l=l.map D.py
 |[]=>rfl
 |d::s=>Ub _<|pe s
theorem vh:∀ {vs:List PV} {F:List Jg} {n:Nat},RdFs σ l vs F->D.okds n l=Jc->n<=50->∀d∈D.pys l,okD d:=by
 induction l with
 |nil=>intro vs F n _ _ _ e O;cases O
 |cons d s i=>
  intro vs F n r h o e O;obtain⟨p,ps,j,q,N,Y,J,w⟩:=r;obtain⟨k,U⟩:=Qg.mp (show(D.okd n d&&D.okds n s)=Jc from h);cases O with
  |head=>exact(lx J k o).2
  |tail _ O=>exact i w U o e O
theorem rY{Q:Bool->Prop}{Q':Bool->PH->Prop}(C:RdF σ a A F)(l:RdF σ b v I)(h:deq a b Q)(k:∀r,Q r->Q' r σ):weq A v σ Q':=by
 obtain⟨N,p⟩:=lx C h.1.1 (by decide);obtain⟨J,w⟩:=lx l h.1.2 (by decide);exact⟨_,_,N,J,p,w,k _ h.2⟩
theorem pu{Q:Bool->Prop}{Q':Bool->PH->Prop}(C:RdF σ a A F)(e:RdF σ b v I)(h:din a b Q)(k:∀r,Q r->Q' r σ):win A v σ Q':=by
 induction b using D.casesOn with
 |list l=>
  obtain⟨p,m,G,rfl,T,H,rfl,e⟩:=e;obtain⟨N,Y⟩:=lx C h.1.1 (by decide);refine .inr ?_;rw[jy T];refine⟨_,_,N,(e.py h.1.2).1,Y,vh e h.1.2<|by decide,k _ ?_⟩;rw[pe,List.any_map];exact h.2
 |dict s l=>
  obtain⟨p,m,G,rfl,T,H,rfl,e⟩:=e;refine .inl ?_;show onDO _ (σ p);rw[T];exact rS C h λx q=>k _ q
 |_=>exact h.elim
theorem jO{f:Int->Int->Bool}{Q:Bool->Prop}{Q':Bool->PH->Prop}(C:RdF σ a A F)(l:RdF σ b v I)(h:drel f a b Q)(k:∀r,Q r->Q' r σ):wrel f A v σ Q':=by
 obtain⟨i,e,h⟩:=cF (show dInt (λx=>dInt (λy=>Q<|f x y) b) a from h);obtain⟨j,g,h⟩:=cF h;subst e g;obtain⟨rfl,o0⟩:=C;obtain⟨rfl,o0⟩:=l;exact k _ h
theorem lY{Q:Bool->Prop}{Q':Bool->PH->Prop}(C:RdF σ a A F)(l:RdF σ b v I)(h:dcmp o a b Q)(k:∀r,Q r->Q' r σ):wcmp o A v σ Q':=by
 induction o with
 |eq=>exact rY C l h k
 |ne=>exact rY (Q:=λr=>Q (!r)) (Q':=λr σ=>Q' (!r) σ) C l h λr q=>k _ q
 |in_=>exact pu C l h k
 |nin=>exact pu (Q:=λr=>Q (!r)) (Q':=λr σ=>Q' (!r) σ) C l h λr q=>k _ q
 |lt=>exact jO C l h k
 |le=>exact jO C l h k
 |gt=>exact jO C l h k
 |ge=>exact jO C l h k
end
section
variable{σ σ1 σ2 σ':PH}{fp:String->List Jg}{Δ:DRho}{ρ:Rho}
theorem uN{d:D}(r:RdF σ d v F)(h:dlen d=Ja n):plen σ v=Ja n/\n<=lim:=by
 induction d using D.casesOn with
 |list l=>
  obtain⟨a,m,G,rfl,e,T,rfl,r⟩:=r;obtain rfl:=sj h;refine⟨?_,r.len▸T⟩;show(match σ a with
   |some (.list l)=>Ja l.length
   |_=>Jb)=_
  rw[e];exact Ub Ja r.len
 |tup l=>
  obtain⟨m,rfl,T,r⟩:=r;obtain rfl:=sj h;exact⟨Ub Ja r.len,r.len▸T⟩
 |scr l=>
  obtain⟨⟨rfl,T⟩,o0⟩:=r;obtain rfl:=sj h;exact⟨rfl,T⟩
 |_=>first|exact bnx h|exact onx h|cases h
theorem iL:∀ {l:List D} {vs:List PV} {F:List Jg} {is:List Int},RdFs σ l vs F->dInts l=Ja is->cL vs=Ja is
 |[],vs,F,is,r,h=>by rw[r.1];exact h
 |d::s,vs,F,is,N,h=>by
  obtain⟨p,ps,Q,q,E,Y,J,w⟩:=N
  induction d using D.casesOn with
  |int i=>
   obtain⟨j,e,rfl⟩:=Qs.mp (show(dInts s).map (i:: ·)=Ja is from h);rw[E,J.1];exact Qs.mpr ⟨j,iL w e,rfl⟩
  |_=>first|exact bnx h|exact onx h|cases h
theorem mo:∀ {l:List D} {vs:List PV} {F:List Jg} {is:List Bool},RdFs σ l vs F->hY l=Ja is->eU vs=Ja is
 |[],vs,F,is,r,h=>by rw[r.1];exact h
 |d::s,vs,F,is,N,h=>by
  obtain⟨p,ps,Q,q,E,Y,J,w⟩:=N
  induction d using D.casesOn with
  |bool i=>
   obtain⟨j,e,rfl⟩:=Qs.mp (show(hY s).map (i:: ·)=Ja is from h);rw[E,J.1];exact Qs.mpr ⟨j,mo w e,rfl⟩
  |_=>first|exact bnx h|exact onx h|cases h
theorem ERs.one{d:D}(h:ERs σ fp σ' ds vs s)(e:ds=[(d,t)]):X2 λv F=>A3 (vs=[v]) (RdF σ' d v F) (PartOK σ fp t F):=by
 cases h with
 |nil=>cases e
 |cons r p q h=>
  cases e;cases h;exact⟨_,_,rfl,r,p⟩
theorem i7{d:D}{K:List D->Prop}{K':List PV->Prop}(r:RdF σ d v F)(h:dLst K d)(k:∀l vs G,K l->RdFs σ l vs G->vs.length<=lim->(G.Sublist F)->K' vs):onL σ K' v:=by
 obtain⟨l,rfl,h⟩:=i0 h;obtain⟨a,m,G,rfl,e,T,rfl,r⟩:=r;rw[jy e];exact k _ _ _ h r T<|Kq _ _
theorem jS{K K':List Int->Prop}(h:oIs K o)(e:∀is,o=Ja is->o'=Ja is)(k:∀is,K is->K' is):oIs K' o':=by
 obtain⟨is,N,p⟩:=iu h;rw[e is N];exact k is p
theorem pG:∀ks:List (List KA),(∀k∈ks,k.length<=lim)->RdFs σ (ks.map keyDd) (ks.map keyPV) []
 |[]=>λo0=>⟨rfl,rfl⟩
 |k::ks=>λh=>⟨_,_,[],[],rfl,rfl,⟨_,rfl,(by rw[Qd];exact h k (.head _)),tJ k⟩,pG ks λx hx=>h x (.tail _ hx)⟩
theorem p0:∀is:List Int,RdFs σ (is.map D.int) (is.map PV.int) []
 |[]=>⟨rfl,rfl⟩
 |i::is=>⟨_,_,[],[],rfl,rfl,⟨rfl,rfl⟩,p0 is⟩
theorem nO:∀is:List Nat,RdFs σ (is.map λ(i:Nat)=>D.int i) (is.map λ(i:Nat)=>PV.int i) []
 |[]=>⟨rfl,rfl⟩
 |i::is=>⟨_,_,[],[],rfl,rfl,⟨rfl,rfl⟩,nO is⟩
theorem sG:∀is:List (Int×Int),RdFs σ (is.map prD) (is.map prPV) []
 |[]=>⟨rfl,rfl⟩
 |i::is=>⟨_,_,[],[],rfl,rfl,⟨_,rfl,Kt rfl,_,_,[],[],rfl,rfl,⟨rfl,rfl⟩,_,_,[],[],rfl,rfl,⟨rfl,rfl⟩,rfl,rfl⟩,sG is⟩
theorem zz{d:D}(r:RdF σ d v F)(h:dPrOf d=Ja p):prOf v=Ja p:=by
 rcases d with o0|o0|o0|o0|l|o0|o0|o0|o0|o0|o0<;>try exact ns h
 rcases l with o0|⟨a,o0|⟨b,o0|⟨o0,o0⟩⟩⟩<;>try (first|exact ns h|(rcases a with⟨⟩<;>first|exact ns h|(rcases b with⟨⟩<;>exact ns h)))
 rcases a with⟨⟩<;>try exact ns h
 rcases b with⟨⟩<;>try exact ns h
 obtain⟨m,rfl,o0,f,B,j,G1,rfl,rfl,T,n,M,N,G,rfl,rfl,e,X⟩:=r;rw[T.1,e.1,X.1];exact h
theorem ug:∀ {ds:List D} {vs:List PV} {F:List Jg} {ps:List (Int×Int)},RdFs σ ds vs F->dPrs ds=Ja ps->ig vs=Ja ps
 |[],vs,F,ps,r,h=>by rw[r.1];exact h
 |d::ds,vs,F,ps,r,h=>by
  obtain⟨v,s,j,q,rfl,rfl,f,M⟩:=r;obtain⟨p,N,Y⟩:=Qn.mp (show((dPrOf d).bind λx=>(dPrs ds).map (x:: ·))=Ja ps from h);obtain⟨C,J,rfl⟩:=Qs.mp Y;show((prOf v).bind λx=>(ig s).map (x:: ·))=_;rw[zz f N,ug M J];rfl
theorem yI(x:Ext σ σ')(r:ERs σ fp σ' ds vs Fs)(h:dbi b ds Q)
  (k:∀d t v σ' F,Q d t->ER σ fp σ' d t v F->Q' v σ'):wbi b vs σ' Q':=by
 have at1:∀ {K:D->Tag->Prop} {K':PV->Prop},d1 K ds->(∀d t v F,K d t->RdF σ' d v F->PartOK σ fp t F->K' v)->on1 K' vs:=λw k=>by
  obtain⟨d,t,e,w⟩:=yy w;obtain⟨v,F,rfl,rv,p⟩:=r.one e;exact k d t v F w rv p
 induction b with
 |len=>
  exact at1 h λd t v F w rv p=>by
   obtain⟨n,e,w⟩:=gA w;obtain⟨h1,h2⟩:=uN rv e;rw[h1];exact⟨h2,k _ _ _ _ _ w<|.at0 x ⟨rfl,rfl⟩⟩
 |all=>
  exact at1 h λd t v F w rv p=>i7 rv w λl vs G w r o0 o0=>by
   obtain⟨bs,e,w⟩:=pV w;rw[mo r e];exact k _ _ _ _ _ w<|.at0 x ⟨rfl,rfl⟩
 |sum=>
  exact at1 h λd t v F w rv p=>i7 rv w λl vs G w r o0 o0=>jS w (λis e=>iL r e) λis w=>k _ _ _ _ _ w<|.at0 x ⟨rfl,rfl⟩
 |int=>
  exact at1 h λd t v F w rv p=>by
   obtain⟨i,rfl,w⟩:=dM w;rw[rv.1];exact k _ _ _ _ _ w<|.at0 x ⟨rfl,rfl⟩
 |list=>
  exact at1 h λd t v F w rv p=>by
   induction d using D.casesOn with
   |tup l=>obtain⟨m,rfl,hl,r⟩:=rv;exact .inr ⟨hl,cE x r hl (p.tgl r) w k⟩
   |list l=>
    obtain⟨a,m,G,rfl,e,hl,rfl,r⟩:=rv;refine .inr ?_;show onO _ (σ' a);rw[e];exact⟨hl,cE x r hl ((p.sub<|Kq _ _).tgl r) w k⟩
   |dict ks l=>
    obtain⟨a,m,G,rfl,e,hl,rfl,r⟩:=rv;refine .inl ?_;show onDO _ (σ' a);rw[e];have hk:(ks.map keyPV).length<=lim:=by rw[Qd];exact w.1.1
    exact⟨hk,cE x (pG ks w.1.2) hk .nil w.2 k⟩
   |_=>exact w.elim
 |min=>
  exact at1 h λd t v F w rv p=>i7 rv w λl vs G w r o0 o0=>jS w (λis e=>iL r e) λis w=>⟨w.1,k _ _ _ _ _ w.2<|.at0 x ⟨rfl,rfl⟩⟩
 |sorted=>
  exact at1 h λd t v F w rv p=>i7 rv w λl vs G w r o0 o0=>jS w (λis e=>iL r e) λis w=>⟨w.1,λjs hp hs=>by
   have hl:(js.map PV.int).length<=lim:=by
    rw[Qd,hp.length_eq];exact Qq (KJ w.1)<|by decide
   exact⟨hl,cE x (p0 js) hl .nil (w.2 js hp hs) k⟩⟩
 |max=>
  exact at1 h λd t v F w rv p=>i7 rv w λl vs G w r o0 o0=>jS w (λis e=>iL r e) λis w=>⟨w.1,k _ _ _ _ _ w.2<|.at0 x ⟨rfl,rfl⟩⟩
 |min2=>
  obtain⟨a,t,b,u,rfl,w⟩:=yP h;obtain⟨va,vs',o0,o0,rfl,o0,ra,vb,vs'',o0,o0,rfl,o0,rb,rfl,o0⟩:=r.rds;obtain⟨i,rfl,w1⟩:=cF w;obtain⟨j,rfl,w2⟩:=cF w1;rw[ra.1,rb.1];exact k _ _ _ _ _ w2<|.at0 x ⟨rfl,rfl⟩
 |sortp=>
  exact at1 h λd t v F w rv p=>i7 rv w λl vs G w r o0 o0=>by
   obtain⟨ps,e,w⟩:=pX w;rw[ug r e];have hl:((srtP ps).map prPV).length<=lim:=by
    rw[Qd];exact Qq w.1.2<|by decide
   exact⟨w.1.1,hl,cE x (sG _) hl .nil w.2 k⟩
 |dict=>
  exact at1 h λd t v F w rv p=>by
   induction d using D.casesOn with
   |dict ks l=>
    obtain⟨a,m,G,rfl,e,hl,rfl,r⟩:=rv;show onDO _ (σ' a);rw[e];refine⟨⟨w.1.1,by rw[hl.2];exact hl.1,w.1.2.1⟩,λb hb=> ?_⟩;have hG:G=[]:=r.atom w.1.2.2;subst hG;refine k _ _ _ _ [b] w.2 ⟨⟨b,m,[],rfl,PH.set_same _ _ _,hl,rfl,r.ext<|Ext.set hb _⟩,x.trans<|Ext.set hb _,PartOK.nil.cons (x.new hb) λq=>(bN q)⟩
   |_=>exact w.elim
end
section
variable{σ σ1 σ2 σ':PH}{fp:String->List Jg}{Δ:DRho}{ρ:Rho}
theorem yW{d:D}(r:RdF σ d v F)(h:disi G d t=Ja b):isiV G σ v t=Ja b:=by
 have key:disi G d t=Ja b->isiV G σ v t=Ja b:=λh=>by
  induction d using D.casesOn with
  |none=>rw[r.1];exact h
  |bool=>rw[r.1];exact h
  |int=>rw[r.1];exact h
  |str=>rw[r.1];exact h
  |scr=>exact ns h
  |hole=>exact ns h
  |tup l=>obtain⟨m,rfl,o0⟩:=r;exact h
  |list l=>
   obtain⟨a,m,o0,rfl,e,o0⟩:=r;show isiO G t (σ a)=_;rw[e];exact h
  |dict k l=>exact ns h
  |inst l=>exact ns h
 exact key h
theorem RdFs.get:∀ {l:List PV} {F:List Jg},RdFs σ ds l F->∀ (j:Nat) (d:D),ds[j]? =Ja d->X2 λp G=>A3 (l[j]? =Ja p) (RdF σ d p G) (G.Sublist F):=by
 induction ds with
 |nil=>intro l F _ j d O;exact ns O
 |cons d ds i=>
  intro l F h j e O;obtain⟨p,ps,Q,P,N,Y,J,w⟩:=h;subst N Y
  induction j using Nat.casesOn with
  |zero=>obtain rfl:=sj O;exact⟨p,Q,rfl,J,List.sublist_append_left _ _⟩
  |succ j=>
   obtain⟨q,G,k,U,V⟩:=i w j e O;exact⟨q,G,k,U,V.trans<|List.sublist_append_right _ _⟩
theorem RdFs.take{ds:List D}:∀ {l:List PV} {F:List Jg},RdFs σ ds l F->∀ (j:Nat),∃G,RdFs σ (ds.take j) (l.take j) G/\G.Sublist F:=by
 induction ds with
 |nil=>intro l F h j;obtain⟨rfl,rfl⟩:=h;rw[List.take_nil,List.take_nil];exact⟨[],⟨rfl,rfl⟩,List.nil_sublist _⟩
 |cons d ds i=>
  intro l F h j
  induction j using Nat.casesOn with
  |zero=>exact⟨[],⟨rfl,rfl⟩,List.nil_sublist _⟩
  |succ j=>
   obtain⟨p,ps,Q,q,N,Y,J,w⟩:=h;subst N Y;obtain⟨G,k,U⟩:=i w j;exact⟨Q++G,⟨p,ps.take j,Q,G,rfl,rfl,J,k⟩,List.Sublist.append (List.Sublist.refl _) U⟩
theorem RdFs.drop{ds:List D}:∀ {l:List PV} {F:List Jg},RdFs σ ds l F->∀ (j:Nat),∃G,RdFs σ (ds.drop j) (l.drop j) G/\G.Sublist F:=by
 induction ds with
 |nil=>intro l F h j;obtain⟨rfl,rfl⟩:=h;rw[List.drop_nil,List.drop_nil];exact⟨[],⟨rfl,rfl⟩,List.nil_sublist _⟩
 |cons d ds i=>
  intro l F h j
  induction j using Nat.casesOn with
  |zero=>exact⟨F,h,List.Sublist.refl _⟩
  |succ j=>
   obtain⟨p,ps,Q,q,N,Y,J,w⟩:=h;subst N Y;obtain⟨G,k,U⟩:=i w j;exact⟨G,k,U.trans<|List.sublist_append_right _ _⟩
abbrev wsub(σ:PH)(v i:PV)(Q:PV->Prop):Prop:=onD σ (λs l=>oK (λk=>oV Q (klook s l k)) (keyOf i)) v\/oNat (λk=>k<=lim/\oV Q (psub σ v i)) (plen σ v)
theorem gH(T:plen σ v=Ja n)(w:n<=lim)(e:psub σ v i=Ja p)(Q:PV->Prop)(q:Q p):wsub σ v i Q:=by
 refine .inr ?_;rw[T,e];exact⟨w,q⟩
theorem RdFs.look(h:RdFs σ ds l F){d:D}(e:dlook ks ds k=Ja d):X3 λj p G=>A6 (kidx ks k=Ja j) (ds[j]? =Ja d) (l[j]? =Ja p) (klook ks l k=Ja p) (RdF σ d p G) (G.Sublist F):=by
 obtain⟨j,N,Y⟩:=Qn.mp e;obtain⟨p,G,g,c,H⟩:=h.get j d Y;exact⟨j,p,G,N,Y,g,Qn.mpr ⟨j,N,g⟩,c,H⟩
theorem nC(e:σ a=Ja (.dict ks l))(T:keyOf v=Ja k)(w:klook ks l k=Ja p)(Q:PV->Prop)(q:Q p):wsub σ (.ref a) v Q:=by
 refine .inl ?_;show onDO _ (σ a);rw[e];show oK _ (keyOf v);rw[T];show oV Q (klook ks l k);rw[w];exact q
inductive SubS(σ:PH)(va vi:PV)(x:D)(Fa:List Jg):Prop
 |mk (p:PV) (G:List Jg) (e:∀Q:PV->Prop,Q p->wsub σ va vi Q) (r:RdF σ x p G) (s:G.Sublist Fa):SubS σ va vi x Fa
theorem xK(C:RdF σ a A F)(V:RdF σ i J I)(h:dsub a i=Ja x):SubS σ A J x F:=by
 induction a using D.casesOn with
 |list l=>
  induction i using D.casesOn with
  |int n=>
   obtain⟨rfl,o0⟩:=V;obtain⟨a,m,G,rfl,e,T,rfl,r⟩:=C;obtain⟨j,N,Y⟩:=Qn.mp (show((place l.length n).bind λj=>l[j]?)=Ja x from h);obtain⟨p,b,v,g,H⟩:=r.get j x Y;refine⟨p,b,gH (n:=m.length) ?_ T ?_,g,H.trans<|Kq _ _⟩
   ·show(match σ a with
     |some (.list l)=>Ja l.length
     |_=>Jb)=_
    rw[e]
   ·show psubO (.int n) (σ a)=_;rw[e];show((place m.length n).bind λj=>m[j]?)=Ja p;rw[r.len,N];exact v
  |_=>first|exact bnx h|exact onx h|cases h
 |tup l=>
  induction i using D.casesOn with
  |int n=>
   obtain⟨rfl,o0⟩:=V;obtain⟨m,rfl,T,r⟩:=C;obtain⟨j,N,Y⟩:=Qn.mp (show((place l.length n).bind λj=>l[j]?)=Ja x from h);obtain⟨p,b,v,g,H⟩:=r.get j x Y;refine⟨p,b,gH (n:=m.length) rfl T ?_,g,H⟩;show((place m.length n).bind λj=>m[j]?)=Ja p;rw[r.len,N];exact v
  |_=>first|exact bnx h|exact onx h|cases h
 |scr l=>
  induction i using D.casesOn with
  |int n=>
   obtain⟨rfl,o0⟩:=V;obtain⟨⟨rfl,T⟩,rfl⟩:=C;obtain⟨y,N,rfl⟩:=Qs.mp (show((place l.length n).bind λj=>l[j]?).map D.int=Ja x from h);exact⟨.int y,[],gH (n:=l.length) rfl T<|Qs.mpr ⟨y,N,rfl⟩,⟨rfl,rfl⟩,List.Sublist.refl _⟩
  |_=>first|exact bnx h|exact onx h|cases h
 |dict s l=>
  obtain⟨k,N,Y⟩:=Qn.mp (show((keyD i).bind λk=>dlook s l k)=Ja x from h);obtain⟨a,m,G,rfl,e,T,rfl,r⟩:=C;obtain⟨j,p,b,o0,o0,o0,v,g,H⟩:=r.look Y;exact⟨p,b,nC e (l8 V N) v,g,H.trans<|Kq _ _⟩
 |_=>first|exact bnx h|exact onx h|cases h
theorem nF{f:List D->List D}{f':List PV->List PV}{d:D}(w:∀ {ds:List D} {l:List PV} {F:List Jg},RdFs σ' ds l F->(f' l).length<=l.length/\∃G,RdFs σ' (f ds) (f' l) G/\G.Sublist F)
  (x:Ext σ σ')(r:RdF σ' d v F)(p:PartOK σ fp t F){ok:Nat->Prop}(h:jp f ok t Q d)(k:∀d t v σ' F,Q d t->ER σ fp σ' d t v F->Q' v σ'):nX f' ok v σ' Q':=by
 induction d using D.casesOn with
 |list l=>
  obtain⟨a,m,i,rfl,e,T,rfl,r⟩:=r;obtain⟨b,G,g,c⟩:=w r;show onO (λl=>Okl l/\wnew (.list<|f' l) σ' Q') (σ' a);rw[e];exact⟨T,cE x g (Qq b T) ((p.sub<|c.trans (Kq _ _)).tgl g) h k⟩
 |_=>exact h.elim
theorem vH(k:Int){ds:List D}{l:List PV}(r:RdFs σ ds l F):(l.take (cut l.length k)).length<=l.length/\∃G,RdFs σ (ds.take (cut ds.length k)) (l.take (cut l.length k)) G/\G.Sublist F:=by
 refine⟨by simp;exact Wy _ _,?_⟩;rw[r.len];exact r.take _
theorem wf(k:Int){ds:List D}{l:List PV}(r:RdFs σ ds l F):(l.drop (cut l.length k)).length<=l.length/\∃G,RdFs σ (ds.drop (cut ds.length k)) (l.drop (cut l.length k)) G/\G.Sublist F:=by
 refine⟨by simp,?_⟩;rw[r.len];exact r.drop _
theorem tX(n:Nat):RdFs σ ((Qc n).map λ(i:Nat)=>D.int i) ((Qc n).map λ(i:Nat)=>PV.int i) []:=by
 generalize Qc n=l
 induction l with
 |nil=>exact⟨rfl,rfl⟩
 |cons i r h=>exact⟨_,_,[],[],rfl,rfl,⟨rfl,rfl⟩,h⟩
theorem RdFs.one1{d:D}(r:RdFs σ [d] vs F):∃v,vs=[v]/\RdF σ d v F:=by
 obtain⟨p,ps,j,N,T,w,f,e,u⟩:=r;exact⟨p,by rw[T,e],by rw[w,u,QI];exact f⟩
theorem RdFs.two2{d d':D}(r:RdFs σ [d,d'] vs F):X4 λv w j N=>A4 (vs=[v,w]) (F=j++N) (RdF σ d v j) (RdF σ d' w N):=by
 obtain⟨p,ps,j,N,T,m,f,M⟩:=r;obtain⟨w,e,y⟩:=M.one1;exact⟨p,w,j,N,by rw[T,e],m,f,y⟩
abbrev SrcC(σ':PH)(FF:List Jg)(K:List D->Prop)(K':List PV->(PH->Prop)->Prop):Prop:=∀x l c G,K x->RdFs σ' x l G->l.length<=lim->(∀a∈G,a∈FF)->(∀j,(∀a∈FF,j a=σ' a)->c j)->K' l c
theorem z0{d:D}{FF:List Jg}{K:List D->Prop}{K':List PV->(PH->Prop)->Prop}(f:RdF σ' d v FF)(h:dSeq K d)(c:SrcC σ' FF K K'):src .val [v] σ' K':=by
 induction d using D.casesOn with
 |tup l=>
  obtain⟨m,u,T,r⟩:=f;rw[u];exact c l m _ _ h r T (λa H=>H) λo0 o0=>trivial
 |list l=>
  obtain⟨a,m,G,u,e,T,p,r⟩:=f;rw[u];show onL σ' (λl=>K' l λσ'=>σ' a=Ja (.list l)) (.ref a);rw[jy e];exact c l m _ G h r T (λb R=>by rw[p];exact .tail _ R) λj s=>(s a<|by rw[p];exact .head _).trans e
 |_=>exact h.elim
theorem ym{FF:List Jg}{K:List D->Prop}{K':List PV->(PH->Prop)->Prop}(r:RdFs σ' ds vs FF)(h:dsrc k ds K)(c:SrcC σ' FF K K'):src k vs σ' K':=by
 induction k with
 |val=>
  obtain⟨d,rfl,i⟩:=pC h;obtain⟨v,e,f⟩:=r.one1;rw[e];exact z0 f i c
 |range=>
  obtain⟨d,rfl,i⟩:=pC h;obtain⟨n,rfl,N,p⟩:=cF i;obtain⟨v,e,f⟩:=r.one1;rw[e,f.1];exact⟨N.1,c _ _ _ [] p (tX _) (by rw[Qd,Qr];exact YD.mpr N.2) (λa T=>(bN T)) λo0 o0=>trivial⟩
theorem oj{F:List (List Jg)}{K:List D->Prop}{K':List PV->(PH->Prop)->Prop}(r:ERs σ fp σ' ds vs F)(h:dsrc k (fsts ds) K)
  (c:∀xs l chk G,K xs->RdFs σ' xs l G->l.length<=lim->(∀a∈G,a∈F.flatten)->(∀j,(∀a∈F.flatten,j a=σ' a)->chk j)->K' l chk):src k vs σ' K':=ym r.rds h c
end
section
variable{σ σ1 σ2 σ':PH}{fp:String->List Jg}{Δ:DRho}{ρ:Rho}
theorem uZ{ns:List String}{f:String->List Jg}(h:PartOK σ1 f u F)(x:Ext σ σ1)(E:PartOK σ fp t G)(w:∀y a,a∈f y->(y∈ns/\a∈G)\/(y∉ns/\a∈fp y)):PartOK σ fp (tout ns t u) F:=by
 induction u with
 |none=>exact⟨λo0=>⟨(h.own rfl).1,λa T=>x.new ((h.own rfl).2 a T)⟩,λs e=>nomatch e⟩
 |some s=>
  refine⟨λe=> ?_,λzs e a T=> ?_⟩
  ·exact sn (mc e).1
  obtain⟨c,m⟩:=tG (a:=Ja<|s.filter λx=> !ns.contains x) (b:=t) e
  rcases h.al s rfl a T with q|⟨y,W,q⟩
  ·exact .inl<|x.new q
  ·rcases w y a q with⟨o0,q⟩|⟨N,Z⟩
   ·exact(E.wide m).al zs rfl a q
   ·exact .inr ⟨y,c _ rfl y<|Qj.mpr ⟨W,by simpa using N⟩,Z⟩
theorem nQ{E:Tag}{tst:DRho->(Bool->Prop)->Prop}{el:DRho->DQ->Prop}{s:Rho->PH->(Bool->PH->Prop)->Prop}{g:Rho->PH->Post->Prop}{chk:PH->Prop}
  (env:EnvE σ Δ ρ fp)(hG:PartOK σ fp E I)
  (X:∀P ρ' f σ1 K K',EnvE σ1 P ρ' f->tst P K->(∀b σ2,K b->Ext σ1 σ2->K' b σ2)->s ρ' σ1 K')
  (B:∀P ρ' f σ1 K K',EnvE σ1 P ρ' f->el P K->(∀d t v σ2 F,K d t->ER σ1 f σ2 d t v F->K' v σ2)->g ρ' σ1 K'):
  ∀ (xs:List D) (vs:List PV) (Gx:List Jg) (m:List D) (c:List PV) (O:List Jg) (t:Tag) (σ1:PH) (K:List D->Tag->Prop) (K':List PV->PH->Prop),RdFs σ1 xs vs Gx->(∀a∈Gx,a∈I)->Ext σ σ1->(∀σ2,Ext σ1 σ2->chk σ2)->
   RdFs σ1 m c O->PartOK σ fp t O->c.length+vs.length<=lim->dcomp tg Δ E tst el xs m t K->
   (∀m t c σ2 O,K m t->Ext σ σ2->RdFs σ2 m c O->PartOK σ fp t O->c.length<=lim->K' c σ2)->fG chk tg ρ s g vs c σ1 K':=by
 intro xs
 induction xs with
 |nil=>
  intro vs Gx m c O t σ1 K K' r _ x C Z Y H h k;obtain⟨rfl,o0⟩:=r;exact⟨C σ1<|.refl _,k _ _ _ _ _ h x Z Y H⟩
 |cons d ds i=>
  intro vs Gx m c O t σ1 K K' N S x C Z Y H h k;obtain⟨p,ps,F1,L,e1,w,r1,R⟩:=N;subst e1 w;refine⟨C σ1<|.refl _,?_⟩;obtain⟨P,e,h⟩:=f9 h;obtain⟨ρ',f,Q,A,b3⟩:=(env.ext x).bindC r1 e;rw[Q];refine X P ρ' f σ1 _ _ A h λb σ2 h W=> ?_;have U:c.length+(ps.length+1)<=lim:=H
  induction b with
  |false=>exact i ps L m c O t σ2 K K' (R.ext W) (λa T=>S a<|Qe _ T) (x.trans W) (λV J=>C V<|W.trans J) (Z.ext W) Y (by exact Kc U) h k
  |true=>
   refine B P ρ' f σ2 _ _ (A.ext W) h λe u v V F h j=> ?_;have J:=W.trans j.ext;have n:PartOK σ fp (tout tg.names E u) F:=uZ j.part (x.trans W) hG λy a T=>(b3 y a T).imp_left λq=>⟨q.1,S a<|Ql _ q.2⟩
   refine i ps L (m++[e]) (c++[v]) (O++F) (tj t<|tout tg.names E u) V K K' (R.ext J) (λa T=>S a<|Qe _ T) (x.trans J) (λM o=>C M<|J.trans o)
    ((Z.ext J).app ⟨v,[],F,[],rfl,(QI _).symm,j.rd,rfl,rfl⟩) (Y.join n λo0 w a T z=> ?_) (by rw[QD,WO];exact zle (Kd<|QQ _ _ _) U) h k
   have hu:u=Jb:=by
    induction u with
    |none=>rfl
    |some xs=>exact sn (mc w).1
   obtain⟨l,el⟩:=(Z.ext W).dom a T;have:=(j.part.own hu).2 a z;exact sn<|el.symm.trans this
end
theorem ERs.from{fp:String->List Jg}(h:ERs σ1 fp σ' ds vs F)(x:Ext σ σ1):ERs σ fp σ' ds vs F:=by
 induction h with
 |nil=>exact .nil
 |cons r p q h i=>exact .cons r (p.from x) q i
theorem ERs.mem{fp:String->List Jg}{ds:List (D×Tag)}(h:ERs σ fp σ' ds vs F):∀p∈ds.zip F,PartOK σ fp p.1.2 p.2:=by
 induction h with
 |nil=>intro p K;cases K
 |cons r p q h i=>
  intro x hx;cases hx with
  |head=>exact p
  |tail _ hx=>exact i x hx
theorem nw{fp:String->List Jg}{d:D}(env:EnvE σ Δ ρ fp)(r:ER σ fp σ1 d t v F)(x:Ext σ1 σ2)(s:ERs σ1 fp σ2 ds vs i):
  ERs σ fp σ2 ((d,t)::ds) (v::vs) (F::i):=
 .cons (r.rd.ext x) r.part (λp h e=>r.part.apart env.dom r.ext r.rd.dom (s.mem p h) e) (s.from r.ext)
section
variable{G:Gx}{cv:Cl}
theorem yg:DOK G cv (.glob x):=λΔ ρ fp σ Q X r H n h k N=>by
 have h:dglob Q (G.glob x):=h;show oV _ (G.glob x)
 induction e:G.glob x with
 |none=>rw[e] at h;exact h.elim
 |some v=>
  rw[e] at h
  induction v using PV.casesOn with
  |int i=>exact k _ _ _ _ _ h<|.at0 (.refl σ) ⟨rfl,rfl⟩
  |str i=>exact k _ _ _ _ _ h<|.at0 (.refl σ) ⟨rfl,rfl⟩
  |_=>exact h.elim
theorem zZ:DOK G cv (.loc x):=λΔ ρ fp σ Q X t H n h k N=>by
 obtain⟨⟨d,b⟩,e,h⟩:=dB (show dOE (λp=>Q p.1<|tg0 p.1 (Ja [x])) (Δ.get x) from h);obtain⟨v,g,r⟩:=n.at_ x d b e;show oV _ (ρ.get x);rw[g];refine k _ _ _ _ _ h ⟨r,.refl σ,PartOK.tg0 ⟨λe=>(sn e),λs e a T=> ?_⟩ r⟩;obtain rfl:=sj e;exact .inr ⟨x,.head _,T⟩
theorem zm(T:DOK G cv a)(R:DOK G cv b):DOK G cv (.bin o a b):=λΔ ρ fp σ Q X M H n h k N=>
 T Δ ρ fp σ _ X _ H n h (λu t A σ1 O h r=>R Δ ρ fp σ1 _ X _ H (n.ext r.ext) h (λZ l v σ2 I h D=>
  wg (r.ext.trans D.ext) (r.rd.ext D.ext) D.rd r.part (D.part.from r.ext) (λe o0=>r.part.apart n.dom r.ext r.rd.dom D.part (.inl e)) h k) λc d ws σ' F q x=>N c d ws σ' F q (x.from r.ext)) N
theorem zP(T:DOK G cv a):DOK G cv (.not_ a):=λΔ ρ fp σ Q X M H e h k x=>
 T Δ ρ fp σ _ X _ H e h (λd t v σ1 F h r=>by
  obtain⟨i,rfl,h⟩:=dM h;rw[r.rd.1];exact k _ _ _ _ _ h (.at0 r.ext ⟨rfl,rfl⟩)) x
theorem zi(T:DOK G cv a)(R:DOK G cv b):DOK G cv (.and_ a b):=λΔ ρ fp σ Q X M H e h k N=>
 T Δ ρ fp σ _ X _ H e h (λu l A σ1 O h C=>by
  obtain⟨i,rfl,h⟩:=dM h;rw[C.rd.1]
  induction i with
  |true=>exact R Δ ρ fp σ1 _ X _ H (e.ext C.ext) h (λd t v σ2 F h r=>k _ _ _ _ _ h<|r.from C.ext) λc s ws σ' F q x=>N c s ws σ' F q<|x.from C.ext
  |false=>exact k _ _ _ _ _ h (.at0 C.ext ⟨rfl,rfl⟩)) N
theorem Aw(T:DOK G cv a)(R:DOK G cv b):DOK G cv (.or_ a b):=λΔ ρ fp σ Q X M H e h k N=>
 T Δ ρ fp σ _ X _ H e h (λu l A σ1 O h C=>by
  obtain⟨i,rfl,h⟩:=dM h;rw[C.rd.1]
  induction i with
  |false=>exact R Δ ρ fp σ1 _ X _ H (e.ext C.ext) h (λd t v σ2 F h r=>k _ _ _ _ _ h<|r.from C.ext) λc s ws σ' F q x=>N c s ws σ' F q<|x.from C.ext
  |true=>exact k _ _ _ _ _ h (.at0 C.ext ⟨rfl,rfl⟩)) N
theorem lb{d:D}{v:PV}(r:RdF σ d v F)(h:hZ d=Jd):v.isNone=d.isNone:=by
 induction d using D.casesOn with
 |none=>rw[r.1];rfl
 |bool=>rw[r.1];rfl
 |int=>rw[r.1];rfl
 |str=>rw[r.1];rfl
 |scr=>rw[r.1.1];rfl
 |hole=>exact tf h
 |tup l=>obtain⟨m,rfl,o0⟩:=r;rfl
 |list l=>obtain⟨a,m,G,rfl,o0⟩:=r;rfl
 |dict k l=>obtain⟨a,m,G,rfl,o0⟩:=r;rfl
 |inst l=>obtain⟨a,d,m,rfl,o0⟩:=r;rfl
theorem tH(T:DOK G cv a):DOK G cv (.isNone a):=λΔ ρ fp σ Q X M H e h k x=>
 T Δ ρ fp σ _ X _ H e h (λd t v σ1 F h r=>by
  rw[lb r.rd h.1];exact k _ _ _ _ _ h.2 (.at0 r.ext ⟨rfl,rfl⟩)) x
theorem qK(T:DOK G cv a):DOK G cv (.notNone a):=λΔ ρ fp σ Q X M H e h k x=>
 T Δ ρ fp σ _ X _ H e h (λd t v σ1 F h r=>by
  rw[lb r.rd h.1];exact k _ _ _ _ _ h.2 (.at0 r.ext ⟨rfl,rfl⟩)) x
theorem zD(T:DOK G cv a)(R:DOK G cv b):DOK G cv (.cmp o a b):=λΔ ρ fp σ Q X M H e h k N=>
 T Δ ρ fp σ _ X _ H e h (λu t A σ1 O h C=>R Δ ρ fp σ1 _ X _ H (e.ext C.ext) h (λZ l v σ2 I h D=>
  lY (C.rd.ext D.ext) D.rd h λr q=>k _ _ _ _ _ q (.at0 (C.ext.trans D.ext) ⟨rfl,rfl⟩)) λc d ws σ' F q x=>N c d ws σ' F q (x.from C.ext)) N
theorem yB(T:DOK G cv a)(R:DOK G cv b)(Z:DOK G cv c):DOK G cv (.cmp2 a o b P c):=λΔ ρ fp σ Q X w H e h k N=>
 T Δ ρ fp σ _ X _ H e h (λM t A σ1 O h C=>R Δ ρ fp σ1 _ X _ H (e.ext C.ext) h (λi l v σ2 I h D=>
  lY (C.rd.ext D.ext) D.rd h λr q=>by
   have W:=C.ext.trans D.ext
   induction r with
   |false=>exact k _ _ _ _ _ q<|.at0 W ⟨rfl,rfl⟩
   |true=>exact Z Δ ρ fp σ2 _ X _ H (e.ext W) q (λz f j p g h u=>lY (D.rd.ext u.ext) u.rd h λr q=>k _ _ _ _ _ q (.at0 (W.trans u.ext) ⟨rfl,rfl⟩)) λc d ws σ' F q x=>N c d ws σ' F q (x.from W)) λc d ws σ' F q x=>N c d ws σ' F q (x.from C.ext)) N
theorem Ad(T:DOKs G cv l):DOK G cv (.tup l):=λΔ ρ fp σ Q X t H e h k N=>
 T Δ ρ fp σ _ X _ H e h (λd v σ1 F h x r=>k _ _ _ _ _ h.2 ⟨⟨v,rfl,by rw[r.rds.len];exact h.1,r.rds⟩,x,r.part⟩) N
theorem wW(T:DOKs G cv l):DOK G cv (.list l):=λΔ ρ fp σ Q X t H e h k N=>
 T Δ ρ fp σ _ X _ H e h (λd v σ1 F h x r=>cE x r.rds (by rw[r.rds.len];exact h.1) r.part h.2 k) N
theorem z9(w:DOK G cv a)(R:DOK G cv i):DOK G cv (.sub a i):=λΔ ρ fp σ Q X P H n h k N=>
 w Δ ρ fp σ _ X _ H n h (λM t A σ1 O h r=>R Δ ρ fp σ1 _ X _ H (n.ext r.ext) h (λZ l v σ2 I h b=>by
  obtain⟨d,e,h⟩:=fT h;obtain⟨p,F,T,u,V⟩:=xK (r.rd.ext b.ext) b.rd e;exact T _ (k _ _ _ _ _ h ⟨u,r.ext.trans b.ext,(r.part.sub V).tg0 u⟩)) λc s ws σ' F q x=>N c s ws σ' F q (x.from r.ext)) N
theorem yA(T:DOK G cv a)(R:DOK G cv i):DOK G cv (.upto a i):=λΔ ρ fp σ Q X M H e h k N=>
 T Δ ρ fp σ _ X _ H e h (λu t A σ1 O h r=>R Δ ρ fp σ1 _ X _ H (e.ext r.ext) h (λZ B v σ2 I h b=>by
  obtain⟨n,rfl,h⟩:=cF h;rw[b.rd.1];exact nF (f:=λl=>l.take (cut l.length n)) (f':=λl=>l.take (cut l.length n)) (ok:=λm=>0<=n/\n<m) (vH n) (r.ext.trans b.ext) (r.rd.ext b.ext) r.part h k) λc d ws σ' F q x=>N c d ws σ' F q (x.from r.ext)) N
theorem yn(T:DOK G cv a)(R:DOK G cv i):DOK G cv (.from_ a i):=λΔ ρ fp σ Q X M H e h k N=>
 T Δ ρ fp σ _ X _ H e h (λu t A σ1 O h r=>R Δ ρ fp σ1 _ X _ H (e.ext r.ext) h (λZ B v σ2 I h b=>by
  obtain⟨n,rfl,h⟩:=cF h;rw[b.rd.1];exact nF (f:=λl=>l.drop (cut l.length n)) (f':=λl=>l.drop (cut l.length n)) (ok:=λm=>1<=n/\n<=m) (wf n) (r.ext.trans b.ext) (r.rd.ext b.ext) r.part h k) λc d ws σ' F q x=>N c d ws σ' F q (x.from r.ext)) N
theorem tU{σ1 σ2 σ3:PH}{F:List (List Jg)}{fp:String->List Jg}{chk:PH->Prop}(r:ERs σ fp σ1 ds vs F)(h:∀j,(∀a∈F.flatten,j a=σ1 a)->chk j)(x:Ext σ1 σ2):chk σ2:=
 h σ2 λa T=>by obtain⟨l,e⟩:=r.rds.dom a T;exact(x a _ e).trans e.symm
theorem yp(V:DOK G cv g)(hi:DOKs G cv i):DOK G cv (.comp g tg k i):=λΔ ρ fp σ Q X M H e h n N=>
 ⟨h.1,hi Δ ρ fp σ _ X _ H e h.2 (λd j σ1 w h x r=>oj r h λs l c Gx h U T S C=>⟨T,
  nQ e r.part (λP O f σ1 K W o0 h k=>k _ _ h<|.refl _) (λP O f σ1 K W v h k=>V P O f σ1 K _ W _ v h k λo0 o0 o0 o0 o0 q o0=>q)
   s l Gx [] [] [] Jb σ1 _ _ U S x (λD J=>tU (σ3:=D) r C J) ⟨rfl,rfl⟩ .nil (by rw[WJ,WP];exact T) h λb t a σ2 F h x r p T=>cE x r T p h n⟩) N⟩
theorem tw(V:DOK G cv g)(I:DOK G cv c)(hi:DOKs G cv i):DOK G cv (.compIf g tg k i c):=λΔ ρ fp σ Q X o H e h n N=>
 ⟨h.1,hi Δ ρ fp σ _ X _ H e h.2 (λj L σ1 w h x r=>oj r h λs l z Gx h U T S Z=>⟨T,
  nQ e r.part (λP O f σ1 K C W h k=>I P O f σ1 _ _ _ _ W h (λd t v σ2 F h r=>by
    obtain⟨b,rfl,h⟩:=dM h;rw[r.rd.1];exact k _ _ h r.ext) λo0 o0 o0 o0 o0 q o0=>q) (λP O f σ1 K C W h k=>V P O f σ1 K _ C _ W h k λo0 o0 o0 o0 o0 q o0=>q)
   s l Gx [] [] [] Jb σ1 _ _ U S x (λD J=>tU (σ3:=D) r Z J) ⟨rfl,rfl⟩ .nil (by rw[WJ,WP];exact T) h λu t a σ2 M h x r p T=>cE x r T p h n⟩) N⟩
theorem nE{f:String}{ds:List (D×Tag)}{vs:List PV}{s:List (List Jg)}{σ σ1:PH}{fp:String->List Jg}{Q:DQ}{X:DX}{Q':Post}{H:XPost}(h:aR cv f (flags ds) (λd b=>Q d (tg0 d (cond b Jb (tj (Ja []) (tjs ds))))) X)(x:Ext σ σ1)(r:ERs σ fp σ1 ds vs s)
  (k:∀d t v σ' F,Q d t->ER σ fp σ' d t v F->Q' v σ')(N:∀c ds ws σ' F,X c ds->XOK σ σ' ds ws F->H ⟨c,ws⟩ σ'):cv f vs σ1 Q' H:=
 h σ1 vs s Q' H r.args (λd b v σ2 F q C=>by
   have W:Ext σ σ2:=λa o e=>C.kept a o (x a o e) λw=>by have:=r.owned a w;exact sn<|e.symm.trans this
   refine k _ _ _ _ _ q ⟨C.rd,W,PartOK.tg0 ?_ C.rd⟩
   induction b with
   |true=>exact⟨λo0=>⟨(C.own rfl).1,λa T=>((C.own rfl).2 a T).elim x.new (r.owned a)⟩,λP e=>(ns e)⟩
   |false=>
    obtain⟨y,p,m⟩:=uA [] (tjs ds);show PartOK σ fp (tj (Ja []) (tjs ds)) F;rw[p];refine⟨λe=>(sn e),λzs e a T=> ?_⟩;obtain rfl:=sj e;exact(C.al a T).elim (λq=> .inl (x.new q)) λq=>(r.part.wide m).al y rfl a q)
  λc U ws σ2 F q E=>N c U ws σ2 F q ⟨E.rd,λa o e=>E.kept a o (x a o e) (λw=>by have:=r.owned a w;exact sn<|e.symm.trans this),E.nd,λa T=>(E.own a T).elim x.new (r.owned a)⟩
theorem xP{args:List E}(a:DOKs G cv args):DOK G cv (.call f args):=λΔ ρ fp σ Q X t H e h k N=>
 ⟨h.1,a Δ ρ fp σ _ X _ H e h.2 (λd v σ1 F h x r=>nE h x r k N) N⟩
theorem yw{d:D}(r:RdF σ d v F)(h:dIns d):onI σ v:=by
 induction d using D.casesOn with
 |inst l=>
  obtain⟨a,b,m,rfl,e,o0⟩:=r;show onIO (σ a);rw[e];trivial
 |_=>exact h.elim
theorem vA{args:List E}(w:DOK G cv o)(a:DOKs G cv args):DOK G cv (.mcall f o args):=λΔ ρ fp σ Q X M H e h k N=>
 ⟨h.1,w Δ ρ fp σ _ X _ H e h.2 (λd t v σ1 F h r=>⟨yw r.rd h.1,a Δ ρ fp σ1 _ X _ H (e.ext r.ext) h.2 (λs J σ2 i h x j=>nE h (r.ext.trans x) (nw e r x j) k N) λc s ws σ' F q x=>N c s ws σ' F q<|x.from r.ext⟩) N⟩
theorem Aj{args:List E}(a:DOKs G cv args):DOK G cv (.bi b args):=λΔ ρ fp σ Q X t H e h k N=>
 ⟨h.1,a Δ ρ fp σ _ X _ H e h.2 (λd v σ1 F h x r=>yI x r h k) N⟩
theorem zL(T:DOK G cv a):DOK G cv (.isi a t):=λΔ ρ fp σ Q X M H n h k x=>
 ⟨h.1,T Δ ρ fp σ _ X _ H n h.2 (λd F v σ1 O h r=>by
  obtain⟨b,e,h⟩:=sH h;rw[yW r.rd e];exact k _ _ _ _ _ h (.at0 r.ext ⟨rfl,rfl⟩)) x⟩
theorem ju(h:RdFs σ ds l F)(e:dlook ks ds k=Jb):klook ks l k=Jb:=by
 unfold klook;unfold dlook at e
 induction T:kidx ks k with
 |none=>rfl
 |some j=>
  rw[T] at e;show l[j]? =Jb;have e:ds[j]? =Jb:=e;rw[Yb] at e ⊢;rw[h.len];exact e
theorem xL{d y:D}(r:RdF σ d v F)(h:dfld G f d=Ja y):X2 λp z=>A3 (pattr G σ f v=Ja p) (RdF σ y p z) (z.Sublist F):=by
 induction d using D.casesOn with
 |inst l=>
  obtain⟨a,b,m,rfl,T,e,r⟩:=r;obtain⟨j,N,Y⟩:=Qn.mp (show(((G.flds "Bounds").idxOf? f).bind λj=>l[j]?)=Ja y from h);obtain⟨p,z,P,g,H⟩:=r.get j y Y;refine⟨p,z,?_,g,H⟩;show pfld G σ f (σ a)=_;rw[T];show pfd G f (σ b)=_;rw[e];exact Qn.mpr ⟨j,N,P⟩
 |_=>first|exact bnx h|exact onx h|cases h
theorem vE:DOK G cv .dict0:=λΔ ρ fp σ Q X r H e h k x=>
 ⟨h.1,λa T=>k _ _ _ _ [a] h.2 ⟨⟨a,[],[],rfl,PH.set_same _ _ _,⟨QN _,rfl⟩,rfl,rfl,rfl⟩,Ext.set T _,PartOK.nil.cons T λq=>(bN q)⟩⟩
theorem ze(ha:DOK G cv a)(hb:DOK G cv i):DOK G cv (.get a i):=λΔ ρ fp σ Q X Q' X' env h k kx=>
 ha Δ ρ fp σ _ X _ X' env h (λda ta va σ1 Fa h ra=>by
  obtain⟨ks,l,rfl,h⟩:=mL h;obtain⟨b,m,G0,rfl,e,hl,rfl,r⟩:=ra.rd;have at_:∀ {σ2:PH} {K:List (List KA)->List PV->Prop},Ext σ1 σ2->K ks m->onD σ2 K (.ref b):=λ{σ2 K} x h=>by
   show onDO K (σ2 b);rw[x b _ e];exact h
  refine⟨at_ (.refl _) trivial,hb Δ ρ fp σ1 _ X _ X' (env.ext ra.ext) h (λdb tb vb σ2 Fb h rb=>at_ rb.ext<|rS rb.rd h λx h=> ?_) λc ds ws σ' F q x=>kx c ds ws σ' F q<|x.from ra.ext⟩;have r2:=r.ext rb.ext
  induction e:dlook ks l x with
  |some d=>
   rw[e] at h;obtain⟨j,p,G',o0,o0,o0,g1,g2,g3⟩:=r2.look e;rw[g1];exact k _ _ _ _ _ h ⟨g2,ra.ext.trans rb.ext,(ra.part.sub<|g3.trans (Kq _ _)).tg0 g2⟩
  |none=>
   rw[e] at h;rw[ju r2 e];exact cE (ra.ext.trans rb.ext) (ds:=[]) (l:=[]) (F:=[]) ⟨rfl,rfl⟩ (QN _) .nil h k) kx
theorem w7:DOK G cv (.attr x f):=λΔ ρ fp σ Q X t H n h k N=>by
 obtain⟨⟨d,b⟩,e,h⟩:=dB (show dOE (λp=>dOD (λd=>Q d<|tg0 d (Ja [x]))<|dfld G f p.1) (Δ.get x) from h);obtain⟨y,w,h⟩:=fT h;obtain⟨v,g,r⟩:=n.at_ x d b e;show oV _ (ρ.get x);rw[g];obtain⟨p,F,W,M,s⟩:=xL r w;show oV _ (pattr G σ f v);rw[W];refine k _ _ _ _ _ h ⟨M,.refl σ,PartOK.tg0 ⟨λe=>(sn e),λP e a T=> ?_⟩ M⟩;obtain rfl:=sj e;exact .inr ⟨x,.head _,s.subset T⟩
theorem Am(T:DOK G cv a):DOK G cv (.lr a):=λΔ ρ fp σ Q X M H e h k x=>
 ⟨h.1,T Δ ρ fp σ _ X _ H e h.2 (λd t v σ1 F w r=>by
  obtain⟨n,rfl,A,j⟩:=cF w;rw[r.rd.1];have l:((Qc n.toNat).map λ(i:Nat)=>PV.int i).length<=lim:=by
   rw[Qd,Qr];exact Qq (YD.mpr A.2)<|by decide
  exact⟨A,l,cE r.ext (nO _) l .nil j k⟩) x⟩
mutual
theorem aV:∀e:E,DOK G cv e
 | .none=>λΔ ρ fp σ Q X Q' H env h k N=>k _ _ _ _ _ h<|.at0 (.refl σ) ⟨rfl,rfl⟩
 | .bool _=>λΔ ρ fp σ Q X Q' H env h k N=>k _ _ _ _ _ h<|.at0 (.refl σ) ⟨rfl,rfl⟩
 | .int _=>λΔ ρ fp σ Q X Q' H env h k N=>k _ _ _ _ _ h<|.at0 (.refl σ) ⟨rfl,rfl⟩
 | .str _=>λΔ ρ fp σ Q X Q' H env h k N=>k _ _ _ _ _ h<|.at0 (.refl σ) ⟨rfl,rfl⟩
 | .loc _=>zZ
 | .glob _=>yg
 | .bin _ a b=>zm (aV a)<|aV b
 | .not_ a=>zP<|aV a
 | .and_ a b=>zi (aV a)<|aV b
 | .or_ a b=>Aw (aV a)<|aV b
 | .isNone a=>tH<|aV a
 | .notNone a=>qK<|aV a
 | .cmp _ a b=>zD (aV a)<|aV b
 | .cmp2 a _ b _ c=>yB (aV a) (aV b)<|aV c
 | .tup l=>Ad<|cN l
 | .list l=>wW<|cN l
 | .sub a b=>z9 (aV a)<|aV b
 | .upto a b=>yA (aV a)<|aV b
 | .from_ a b=>yn (aV a)<|aV b
 | .comp e _ _ l=>yp (aV e)<|cN l
 | .compIf e _ _ l c=>tw (aV e) (aV c)<|cN l
 | .call _ l=>xP<|cN l
 | .bi _ l=>Aj<|cN l
 | .isi a _=>zL<|aV a
 | .meth .. =>λΔ ρ fp σ Q X Q' H env h k N=>h.elim
 | .dict0=>vE
 | .get a b=>ze (aV a)<|aV b
 | .sd .. =>λΔ ρ fp σ Q X Q' H env h k N=>h.elim
 | .attr _ _=>w7
 | .lr a=>Am<|aV a
 | .mcall _ o l=>vA (aV o)<|cN l
theorem cN:∀es:List E,DOKs G cv es
 |[]=>λΔ ρ fp σ Q X Q' H env h k N=>k _ _ _ _ h (.refl σ) .nil
 |e::es=>λΔ ρ fp σ Q X Q' H env h k N=>aV e Δ ρ fp σ _ X _ H env h (λd t v σ1 F h r=>
   cN es Δ ρ fp σ1 _ X _ H (env.ext r.ext) h (λds vs σ2 i h x s=>k _ _ _ _ h (r.ext.trans x) (nw env r x s)) λc ds ws σ' F q x=>N c ds ws σ' F q (x.from r.ext)) N
end
end
set_option genCtorIdx false in
inductive DFl where
 |next
 |ret(d:D)(b:Bool)
abbrev bT:=DFl->DRho->Prop
abbrev DSX:=String->List D->DRho->Prop
noncomputable def locOf:E->Option String
 | .loc x=>Ja x
 |_=>Jb
mutual
noncomputable def dwm(G:Gx)(c:DCl):E->DRho->(D->DRho->Prop)->Prop
 | .loc x,L,Q=>dOE (λp=>cond p.1.atom (Q p.1 L) (p.2=Jc/\Q p.1 (L.put x (.hole,Jc)))) (L.get x)
 | .tup l,L,Q=>dwms G c l L (λds P=>ds.length<=lim/\Q (.tup ds) P)
 |e,L,Q=>dwe G c e L (λd t=>t=Jb/\Q d L) λo0 o0=>False
noncomputable def dwms(G:Gx)(c:DCl):List E->DRho->(List D->DRho->Prop)->Prop
 |[],L,Q=>Q [] L
 |e::es,L,Q=>dwm G c e L (λd i=>dwms G c es i (λds J=>Q (d::ds) J))
end
noncomputable def isScr:D->Bool
 | .scr _=>Jc
 |_=>Jd
noncomputable def dpath(G:Gx)(c:DCl):E->DRho->(String->List D->D->Prop)->DX->Prop
 | .loc x,L,Q,_=>dOE (λp=>p.2=Jc/\Q x [] p.1) (L.get x)
 | .sub a i,L,Q,X=>dpath G c a L (λx ps n=>dwe G c i L (λj o0=>isScr n=Jd/\dOD (λd=>Q x (ps++[j]) d) (dsub n j)) X) X
 |_,_,_,_=>False
def dset1(i:D)(f:D->Option D):D->Option D
 | .list l=>match i with
  | .int n=>(place l.length n).bind λj=>(l[j]?).bind λx=>(f x).map λy=> .list (l.set j y)
  |_=>Jb
 | .tup l=>match i with
  | .int n=>(place l.length n).bind λj=>(l[j]?).bind λx=>(f x).map λy=> .tup (l.set j y)
  |_=>Jb
 | .dict s l=>(keyD i).bind λk=>(kidx s k).bind λj=>(l[j]?).bind λx=>(f x).map λy=> .dict s (l.set j y)
 |_=>Jb
noncomputable def updp:List D->(D->Option D)->D->Option D
 |[],f=>f
 |i::is,f=>dset1 i<|updp is f
def dput(L:DRho)(x:String)(ps:List D)(dn':D)(K:DRho->Prop):Prop:=
 dOE (λp=>dOD (λd=>K<|L.put x (d,Jc))<|updp ps (λo0=>Ja dn') p.1) (L.get x)
noncomputable def donFl(K:DRho->Prop)(Q:bT):bT
 | .next,L=>K L
 | .ret d b,L=>Q (.ret d b) L
noncomputable def fA(tg:Tg)(body:DRho->bT->Prop)(Q:bT):List D->DRho->Prop
 |[],L=>Q .next L
 |x::s,L=>dOR (λP=>body P (donFl (λJ=>fA tg body Q s J) Q)) (dU tg x x.atom L)
def dmeth(m:Me)(args:List D)(n:D)(K:D->Prop):Prop:=
 match m with
 | .append=>match args with
  |[d]=>dLst (λl=>l.length<lim/\K (.list<|l++[d])) n
  |_=>False
def drecv(m:Me)(d:D):Prop:=
 match m with
 |_=>dLst (λo0=>True) d
noncomputable def ownD:Option (D×Bool)->Bool
 |some (d,b)=> !d.atom&&b
 |none=>Jd
def splO(L:DRho)(r:List E)(k:Option (List E×String×List E)):Option String->Option (List E×String×List E)
 |some x=>cond (ownD<|L.get x) (Ja ([],x,r)) k
 |none=>k
noncomputable def spl(L:DRho):List E->Option (List E×String×List E)
 |[]=>Jb
 |e::r=>splO L r ((spl L r).map λq=>(e::q.1,q.2)) (locOf e)
def offT(x:String):Tag->Bool
 |none=>Jc
 |some s=> !hasS s x
def offs(x:String)(vs:List (D×Tag)):Bool:=vs.all λp=>offT x p.2
noncomputable abbrev lent(vs:List (D×Tag)):List (D×Bool):=vs.map λp=>(p.1,Jd)
def dio(G:Gx)(c:DCl)(f:String)(L:DRho)(K:DRho->Prop):Option (List E×String×List E)->Prop
 |some (a,x,b)=>G.fn f=Jc/\dwes G c a L (λv=>offs x v=Jc/\dOE (λp=>p.2=Jc/\dwes G c b L (λq=>offs x q=Jc/\
   c.io f v.length (lent v++(p.1,Jc)::lent q) λd=>K (L.put x (d,Jc))) λo0 o0=>False) (L.get x)) λo0 o0=>False
 |none=>False
def dsetI(n i d:D)(K:D->Prop):Prop:=
 match n with
 | .list l=>dInt (λk=>oNat (λj=>K (.list (l.set j d))) (place l.length k)) i
 | .dict s l=>l.length<lim/\oK (λk=>K (dkset s l k d)) (keyD i)
 |_=>False
def dens(ks:List (List KA))(l:List D)(k:List KA):D:=match dlook ks l k with
 |some _=> .dict ks l
 |none=> .dict (ks++[k]) (l++[.list []])
def dsd(G:Gx)(c:DCl)(m:Me)(args:List E)(L:DRho)(K:DRho->Prop)(x:String)(k:E):Prop:=
 dOE (λp=>p.2=Jc/\dDct (λs l=>dwe G c k L (λj o0=>l.length<lim/\oK (λkey=>(λZ=>dOD (λr=>drecv m r/\dwes G c args (L.put x (Z,Jc)) (λv=>tjs v=Jb/\dmeth m (fsts v) r λn=>dOD (λd=>K<|L.put x (d,Jc))<|dset1 j (λo0=>Ja n) Z) λo0 o0=>False)<|dsub Z j)<|dens s l key) (keyD j)) λo0 o0=>False) p.1) (L.get x)
noncomputable def sdOf:E->Option (E×E)
 | .sd a k=>Ja (a,k)
 |_=>Jb
noncomputable def dsdL(G:Gx)(c:DCl)(m:Me)(args:List E)(L:DRho)(K:DRho->Prop)(k:E):Option String->Prop
 |some x=>dsd G c m args L K x k
 |none=>False
def dmeE(G:Gx)(c:DCl)(m:Me)(args:List E)(L:DRho)(K:DRho->Prop)(o:E):Option String->Option (E×E)->Prop
 |some x,_=>dOE (λp=>drecv m p.1) (L.get x)/\dwms G c args L (λs i=>dOE (λp=>p.2=Jc/\dmeth m s p.1 λd=>K (i.put x (d,Jc))) (i.get x))
 |none,Ja a=>dsdL G c m args L K a.2<|locOf a.1
 |none,Jb=>dpath G c o L (λx ps r=>drecv m r/\dwes G c args L (λv=>tjs v=Jb/\dmeth m (fsts v) r λn=>dput L x ps n K) λo0 o0=>False) λo0 o0=>False
def dexpr(G:Gx)(M:DCl):E->DRho->(DRho->Prop)->DSX->Prop
 | .meth o m args,L,K,X=>dmeE G M m args L K o (locOf o)<|sdOf o
 | .call f args,L,K,X=>dio G M f L K (spl L args)\/dwe G M (.call f args) L (λo0 o0=>K L) λc l=>X c l L
 |e,L,K,X=>dwe G M e L (λo0 o0=>K L) λc l=>X c l L
mutual
noncomputable def S.noas(x:String):S->Bool
 | .assign tg _=> !tg.names.contains x
 | .if_ _ b o=>S.noass x b&&S.noass x o
 | .for_ tg _ _ b=> !tg.names.contains x&&S.noass x b
 | .while_ _ b=>S.noass x b
 | .try1 .. =>Jd
 |_=>Jc
noncomputable def S.noass(x:String):List S->Bool
 |[]=>Jc
 |s::r=>S.noas x s&&S.noass x r
end
noncomputable def dwhGo(tst:DRho->(Bool->Prop)->Prop)(body:DRho->bT->Prop)(Q:bT):Nat->DRho->Prop
 |0,_=>False
 |n+1,L=>tst L λb=>cond b (body L (donFl (λJ=>dwhGo tst body Q n J) Q)) (Q .next L)
mutual
noncomputable def dws(G:Gx)(M f:DCl):S->DRho->bT->DSX->Prop
 | .assign (.name x) e,L,Q,X=>dwe G M e L (λd t=>Q .next ((L.frz t).put x (d,t.isNone))) λc l=>X c l L
 | .assign (.tup xs) e,L,Q,X=>G.calm=Jc/\dwe G M e L (λd t=>dOR (λP=>Q .next P) (dU (.tup xs) d t.isNone (L.frz t))) λc l=>X c l L
 | .setIdx o i e,L,Q,X=>dwm G M e L (λd u=>dpath G M o u (λx ps n=>dwe G M i u (λj o0=>dsetI n j d λdn'=>dput u x ps dn' λP=>Q .next P) λo0 o0=>False) λo0 o0=>False)
 | .expr e,L,Q,X=>dexpr G M e L (λP=>Q .next P) X
 | .ret e,L,Q,X=>dwm G M e L (λd P=>Q (.ret d Jc) P)\/dwe G M e L (λd t=>Q (.ret d t.isNone) L) λc l=>X c l L
 | .if_ t b o,L,Q,X=>dwe G M t L (λv o0=>dBool (λc=>cond c (dwss G M f b L Q X) (dwss G M f o L Q X)) v) λc l=>X c l L
 | .for_ tg k g b,L,Q,X=>G.calm=Jc/\dwes G M g L (λvs=>dsrc k (fsts vs) λxs=>fA tg (λL K=>dwss G M f b L K λo0 o0 o0=>False) Q xs (L.frz (tjs vs))) λc l=>X c l L
 | .while_ t b,L,Q,X=>G.calm=Jc/\∃k,dwhGo (λL K=>dwe G M t L (λv o0=>dBool K v) λc l=>X c l L) (λL K=>dwss G M f b L K X) Q k L
 | .raise c args,L,_,X=>(G.full=Jc/\G.calm=Jc/\(G.mks.contains c=Jc\/(G.inis.contains c=Jc/\args.length=(G.flds c).length)))/\dwes G M args L (λvs=>tjs vs=Jb/\X c ((fsts vs).take (G.flds c).length) L) λc l=>X c l L
 | .try1 b c h,L,Q,_=>(G.full=Jc/\G.calm=Jc/\G.cs.contains c=Jc)/\dwss G M f b L Q λe es u=>
   if G.sub e c then dwss G.un f f h u Q λo0 o0 o0=>False
   else False
noncomputable def dwss(G:Gx)(M f:DCl):List S->DRho->bT->DSX->Prop
 |[],L,Q,_=>Q .next L
 |s::r,L,Q,X=>dws G M f s L (donFl (λu=>dwss G M f r u Q X) Q) X
end
structure DSrc where
 S:Jg->Prop
 pin:String->Option PV
instance:CoeFun DSrc λo0=>Jg->Prop:=⟨DSrc.S⟩
structure Inv(N:PH)(S:DSrc)(P:List Jg)(Δ:DRho)(ρ:Rho)(σ:PH)(fp:String->List Jg):Prop where
 env:EnvE σ Δ ρ fp
 sep:∀x d,Δ.get x=Ja (d,Jc)->∀y,y≠x->Disj (fp x) (fp y)
 own:∀x d,Δ.get x=Ja (d,Jc)->(fp x).Nodup/\∀a∈fp x,N a=Jb
 src:∀x,∀a∈fp x,S a
 kept:Ext N σ
 pend:∀a∈P,(∃l:MO,σ a=Ja l.1)/\∀x,a∉fp x
 newS:∀a,N a=Jb->S a
 pin:∀x v,S.pin x=Ja v->ρ.get x=Ja v
theorem Rho.gget_mem:∀ρ:Rho,ρ.get x=Ja v->x∈keysR ρ
 |(y,o)::r,h=>by
  by_cases W:y=x
  ·subst W;exact .head _
  ·simp only[Rho.get_c,W,if_false] at h;exact .tail _<|Rho.gget_mem r h
section
variable{N σ σ':PH}{S:DSrc}{P:List Jg}{Δ:DRho}{ρ:Rho}{fp:String->List Jg}
theorem Inv.ext(h:Inv N S P Δ ρ σ fp)(x:Ext σ σ'):Inv N S P Δ ρ σ' fp:=
 ⟨h.env.ext x,h.sep,h.own,h.src,h.kept.trans x,λa T=>by obtain⟨⟨l,e⟩,p⟩:=h.pend a T;exact⟨⟨l,x a _ e⟩,p⟩,h.newS,h.pin⟩
theorem Inv.weak(h:Inv N S P Δ ρ σ fp)(k:∀a∈P',a∈P):Inv N S P' Δ ρ σ fp:=⟨h.env,h.sep,h.own,h.src,h.kept,λa T=>h.pend a (k a T),h.newS,h.pin⟩
theorem Inv.put(h:Inv N S P Δ ρ σ fp){d:D}{F:List Jg}(r:RdF σ d v F)(H:b=Jc->(F.Nodup/\∀a∈F,N a=Jb)/\∀y,y≠x->Disj F (fp y))
  (o:∀y e,y≠x->Δ.get y=Ja (e,Jc)->Disj (fp y) F)(s:∀a∈F,S a)(p:∀a∈P,a∉F)(n:∀w,S.pin x=Ja w->v=w):Inv N S P (Δ.put x (d,b)) (ρ.put x v) σ (fset fp x F):=by
 have g:∀e,(Δ.put x (d,b)).get x=Ja (e,Jc)->b=Jc:=λe q=>by
  have m:=DRho.get_mem _ q;rw[DRho.put_keys] at m;rw[DRho.get_put _ m] at q;cases q;rfl
 refine⟨h.env.put r,λy e q z R=> ?_,λy e q=> ?_,λy a T=> ?_,h.kept,λa T=>⟨(h.pend a T).1,λy W=> ?_⟩,h.newS,λy w q=> ?_⟩
 ·by_cases W:y=x
  ·subst W;have:=g e q;rw[cM,b7 R];exact(H this).2 z R
  ·rw[DRho.get_put_ne W] at q;rw[b7 W];by_cases f:z=x
   ·subst f;rw[cM];exact o y e W q
   ·rw[b7 f];exact h.sep y e q z R
 ·by_cases W:y=x
  ·subst W;rw[cM];exact(H<|g e q).1
  ·rw[DRho.get_put_ne W] at q;rw[b7 W];exact h.own y e q
 ·by_cases W:y=x
  ·subst W;rw[cM] at T;exact s a T
  ·rw[b7 W] at T;exact h.src y a T
 ·by_cases Q:y=x
  ·subst Q;rw[cM] at W;exact p a T W
  ·rw[b7 Q] at W;exact(h.pend a T).2 y W
 ·by_cases W:y=x
  ·subst W;rw[Rho.gput _ (Rho.gget_mem _<|h.pin y w q),n w q]
  ·rw[Rho.gput_ne W];exact h.pin y w q
structure MOK(N:PH)(P:List Jg)(fp:String->List Jg)(F:List Jg):Prop where
 nd:F.Nodup
 own:∀a∈F,N a=Jb
 out:∀a∈F,∀y,a∉fp y
 pend:Disj P F
theorem MOK.nil:MOK N P fp []:=⟨.nil,λa h=>(bN h),λa h=>(bN h),λa o0 h=>(bN h)⟩
theorem DRho.get_map(f:String->D×Bool->D×Bool)(x:String):∀Δ:DRho,DRho.get (Δ.map λp=>(p.1,p.2.map (f p.1))) x=(Δ.get x).map (f x)
 |[]=>rfl
 |(y,o)::r=>by
  by_cases h:y=x
  ·subst h;simp only[Qw,DRho.get_if,if_true]
  ·simp only[Qw,DRho.get_if,h,if_false];exact DRho.get_map f x r
theorem tO(Δ:DRho)(xs:List String):Δ.frz (Ja xs)=Δ.map λp=>(p.1,p.2.map λq=>if xs.contains p.1 then(q.1,q.1.atom&&q.2) else q):=by
 refine Qo λp o0=> ?_;rw[lF]
 induction xs.contains p.1 with
 |true=>rfl
 |false=>exact Ub (Prod.mk p.1) (congrFun Option.map_id p.2).symm
theorem Inv.map(h:Inv N S P Δ ρ σ fp)(f:String->D×Bool->D×Bool)(j:∀x q,(f x q).1=q.1/\((f x q).2=Jc->q.2=Jc)):Inv N S P (Δ.map λp=>(p.1,p.2.map (f p.1))) ρ σ fp:=by
 have g:∀x d b,DRho.get (Δ.map λp=>(p.1,p.2.map<|f p.1)) x=Ja (d,b)->∃c,Δ.get x=Ja (d,c)/\(b=Jc->c=Jc)/\f x (d,c)=(d,b):=λx d b e=>by
  rw[DRho.get_map] at e;obtain⟨⟨X,c⟩,T,w⟩:=Qs.mp e;have E:=(j x (X,c)).1;have Y:=(j x (X,c)).2;rw[w] at E Y;cases E;exact⟨c,T,Y,w⟩
 refine⟨⟨λx d b e=> ?_,h.env.dom,?_⟩,λx d e=> ?_,λx d e=> ?_,h.src,h.kept,h.pend,h.newS,h.pin⟩
 ·obtain⟨c,T,o0⟩:=g x d b e;exact h.env.at_ x d c T
 ·rw[<-h.env.keys,Qx];rfl
 ·obtain⟨c,T,w,o0⟩:=g x d Jc e;cases w rfl;exact h.sep x d T
 ·obtain⟨c,T,w,o0⟩:=g x d Jc e;cases w rfl;exact h.own x d T
theorem Inv.frz(h:Inv N S P Δ ρ σ fp)(t:Tag):Inv N S P (Δ.frz t) ρ σ fp:=by
 induction t with
 |none=>exact h
 |some s=>
  rw[tO];refine h.map (λx q=>if s.contains x then(q.1,q.1.atom&&q.2) else q) λx q=> ?_;by_cases hx:s.contains x=Jc
  ·rw[Y8 hx];exact⟨rfl,λe=>(Qg.mp e).2⟩
  ·rw[Y7 hx];exact⟨rfl,id⟩
end
theorem Rho.put_self:∀ρ:Rho,ρ.get x=Ja v->ρ.put x v=ρ
 |(y,o)::r,h=>by
  by_cases W:y=x
  ·simp only[Rho.get_c,W,if_true] at h;simp only[Rho.put_c,W,if_true,h]
  ·simp only[Rho.get_c,W,if_false] at h;simp only[Rho.put_c,W,if_false,Rho.put_self r h]
theorem set_same{L:Type}{l:List L}{j:Nat}{p:L}(h:l[j]? =Ja p):l.set j p=l:=by
 refine WM λi=> ?_;rw[Ws]
 split
 ·subst_vars
  rw[h];split
  ·rfl
  ·rename_i t;exact ns<|(KK<|by exact QT.mp t).symm.trans h
 ·rfl
theorem RdFs.split:∀ {ds:List D} {l:List PV} {F:List Jg},RdFs σ ds l F->∀ (j:Nat) (d:D),ds[j]? =Ja d->X4 λp A B y=>A4 (l[j]? =Ja p) (F=A++(y++B)) (RdF σ d p y) (∀σ' d' q I,Ag A σ σ'->Ag B σ σ'->RdF σ' d' q I->RdFs σ' (ds.set j d') (l.set j q) (A++(I++B)))
 |d::ds,l,F,a,0,e,O=>by
  obtain⟨p,ps,Q,t,E,h,J,w⟩:=a;subst E h;obtain rfl:=sj O;exact⟨p,[],t,Q,rfl,rfl,J,λσ' d' q I o0 ag r=>⟨q,ps,I,t,rfl,rfl,r,w.ag ag⟩⟩
 |d::ds,l,F,a,j+1,e,O=>by
  obtain⟨p,ps,Q,t,E,h,J,w⟩:=a;subst E h;obtain⟨q,A,B,y,b,U,V,k⟩:=RdFs.split w j e O;subst U;refine⟨q,Q++A,B,y,b,(Ks _ _ _).symm,V,λσ' d' q I g gb r=> ?_⟩;exact⟨p,ps.set j q,Q,A++(I++B),rfl,Ks _ _ _,J.ag g.left,k σ' d' q I g.right gb r⟩
section
variable{N σ σ':PH}{S:DSrc}{P:List Jg}{Δ:DRho}{ρ:Rho}{fp:String->List Jg}
theorem Ag.refl:Ag F σ σ:=⟨λo0 o0=>rfl,λo0 o0 e o0=>e⟩
theorem Ag.trans(x:Ag F a b)(y:Ag F b c):Ag F a c:=⟨λp h=>(y.at_ p h).trans (x.at_ p h),λp o e k=>y.oth p o (x.oth p o e k) k⟩
theorem Inv.agP(h:Inv N S P Δ ρ σ fp)(x:Ext σ σ'):Ag P σ σ':= .of_ext x λa T=>(h.pend a T).1
theorem Inv.new0(h:Inv N S P Δ ρ σ fp)(e:σ a=Jb):N a=Jb:=h.kept.new e
theorem Inv.move(h:Inv N S P Δ ρ σ fp){d d':D}(e:Δ.get x=Ja (d,Jc))(X:ρ.get x=Ja v)(r:RdF σ d' v (A++B))(J:fp x=A++(F++B)):
  Inv N S P (Δ.put x (d',Jc)) ρ σ (fset fp x<|A++B)/\MOK N P (fset fp x<|A++B) F:=by
 obtain⟨nd,o⟩:=h.own x d e;rw[J] at nd o;have sub:∀a,a∈A++B->a∈fp x:=λa T=>by
  rw[J]
  rcases Qt.mp T with q|q
  ·exact Ql _ q
  ·exact Qe _<|Qe _ q
 have s:∀a,a∈F->a∈fp x:=λa T=>by rw[J];exact Qe _<|Ql _ T
 have n:=Qv.mp nd;have K:=Qv.mp n.2.1;have i:=h.put (x:=x) (b:=Jc) r (λo0=>⟨⟨Qv.mpr ⟨n.1,K.2.1,λa T b R=>n.2.2 a T b<|Qe _ R⟩,λa T=>(h.own x d e).2 a (sub a T)⟩,λy W a T=>h.sep x d e y W a<|sub a T⟩)
  (λy g W q a T R=>h.sep y g q x (λz=>W z.symm) a T<|sub a R) (λa T=>h.src x a<|sub a T) (λa T R=>(h.pend a T).2 x (sub a R)) (λw q=>by have:=h.pin x w q;obtain rfl:=sj<|X.symm.trans this;rfl)
 rw[Rho.put_self _ X] at i;refine⟨i,⟨K.1,λa T=>(h.own x d e).2 a (s a T),λa T y W=> ?_,λa T R=>(h.pend a T).2 x (s a R)⟩⟩;by_cases q:y=x
 ·subst q;rw[cM] at W
  rcases Qt.mp W with q|q
  ·exact n.2.2 a q a (Ql _ T) rfl
  ·exact K.2.2 a T a q rfl
 ·rw[b7 q] at W;exact h.sep x d e y q a (s a T) W
theorem Inv.fresh(h:Inv N S P Δ ρ σ fp)(p:PartOK σ fp t F)(e:t=Jb):MOK N P fp F:=
 ⟨(p.own e).1,λa T=>h.new0<|(p.own e).2 a T,λa T y W=>(by obtain⟨l,q⟩:=h.env.dom y a W;exact ns<|((p.own e).2 a T).symm.trans q),λa T b=>(by obtain⟨⟨l,q⟩,_⟩:=h.pend a T;exact ns<|((p.own e).2 a b).symm.trans q)⟩
end
section
variable(G:Gx)(cv:Cl)
def MDOK(e:E):Prop:=∀ (N:PH) (S:DSrc) (P:List Jg) (Δ:DRho) (ρ:Rho) (fp:String->List Jg) (σ:PH) (Q:D->DRho->Prop) (r:Post) (X:XPost),Inv N S P Δ ρ σ fp->dwm G (aR cv) e Δ Q->
 (∀d H f v σ' F,Q d H->Inv N S P H ρ σ' f->RdF σ' d v F->MOK N P f F->Ag P σ σ'->r v σ')->we G cv e ρ σ r X
def MDOKs(es:List E):Prop:=∀ (N:PH) (S:DSrc) (P:List Jg) (Δ:DRho) (ρ:Rho) (fp:String->List Jg) (σ:PH) (Q:List D->DRho->Prop) (r:List PV->PH->Prop) (X:XPost),Inv N S P Δ ρ σ fp->dwms G (aR cv) es Δ Q->
 (∀s H f v σ' F,Q s H->Inv N S P H ρ σ' f->ArgsR σ' (s.map λd=>(d,Jc)) v F->MOK N P f F.flatten->Ag P σ σ'->r v σ')->wes G cv es ρ σ r X
end
section
variable{G:Gx}{cv:Cl}
theorem bJ(O:DOK G cv e){S:DSrc}{fp:String->List Jg}{Q:D->DRho->Prop}(i:Inv N S P Δ ρ σ fp)
  (h:dwe G (aR cv) e Δ (λd t=>t=Jb/\Q d Δ) λo0 o0=>False)(k:∀d H f v σ' F,Q d H->Inv N S P H ρ σ' f->RdF σ' d v F->MOK N P f F->Ag P σ σ'->Q' v σ'):we G cv e ρ σ Q' X:=
 O Δ ρ fp σ _ _ Q' X i.env h (λd t v σ' F q r=>k d Δ fp v σ' F q.2 (i.ext r.ext) r.rd (i.fresh r.part q.1)<|i.agP r.ext) λo0 o0 o0 o0 o0 q o0=>q.elim
theorem zj:MDOK G cv (.loc x):=λN S P Δ ρ fp σ Q t X i h k=>by
 obtain⟨⟨d,b⟩,e,h⟩:=dB (show dOE (λp=>cond p.1.atom (Q p.1 Δ)<|p.2=Jc/\Q p.1 (Δ.put x (.hole,Jc))) (Δ.get x) from h);obtain⟨v,g,r⟩:=i.env.at_ x d b e;show oV _ (ρ.get x);rw[g];show t v σ
 induction a:d.atom with
 |true=>
  simp only[a,cond_true] at h;refine k d Δ fp v σ [] h i ?_ .nil .refl;rw[r.atom a] at r;exact r
 |false=>
  simp only[a,cond_false] at h;obtain⟨rfl,h⟩:=h;obtain⟨w,m⟩:=i.move (d':= .hole) (A:=[]) (B:=[]) (F:=fp x) e g rfl (by rw[QI,Ky]);exact k d _ _ v σ (fp x) h w r m .refl
theorem ja(h:locOf a=Ja x):a= .loc x:=by
 induction a using E.casesOn with
 |loc y=>obtain rfl:=sj h;rfl
 |_=>first|exact bnx h|exact onx h|cases h
theorem z6(T:MDOKs G cv l):MDOK G cv (.tup l):=λN S P Δ ρ fp σ Q t X i h k=>
 T N S P Δ ρ fp σ _ _ X i h λs H p v σ' F q w r m ag=>by
  have K:RdFs σ' s v F.flatten:=by
   clear q m w ag h T k
   induction s generalizing v F with
   |nil=>cases r;exact⟨rfl,rfl⟩
   |cons d s W=>cases r with|cons f M y u=>exact⟨_,_,_,_,rfl,rfl,f,W _ _ u⟩
  exact k _ _ _ _ _ _ q.2 w ⟨v,rfl,by rw[K.len];exact q.1,K⟩ m ag
theorem ArgsR.lens{ds:List (D×Bool)}{vs:List PV}{F:List (List Jg)}(h:ArgsR σ ds vs F):vs.length=ds.length/\F.length=ds.length:=by
 induction h with
 |nil=>exact⟨rfl,rfl⟩
 |cons r p q h i=>exact⟨Ub (· +1) i.1,Ub (· +1) i.2⟩
theorem Inv.called{S:DSrc}{fp:String->List Jg}(i:Inv N S P Δ ρ σ fp)(m:MOK N P fp M)(Z:∀a∈M,∃l:MO,σ a=Ja l.1)(k:ir M σ σ'):
  Inv N S P Δ ρ σ' fp/\Ag P σ σ':=by
 have ag:∀F:List Jg,(∀a∈F,(∃l:MO,σ a=Ja l.1)/\a∉M)->Ag F σ σ':=λF J=>⟨λa h=>by
   obtain⟨⟨l,e⟩,c⟩:=J a h;exact(k a _ e c).trans e.symm,λa o e n=>k a o e λq=>by
   obtain⟨l,A⟩:=Z a q;obtain rfl:=sj (e.symm.trans A);exact ft (l.2.symm.trans n)⟩
 have g:∀x,Ag (fp x) σ σ':=λx=>ag _ λa h=>⟨i.env.dom x a h,λq=>m.out a q x h⟩
 have agP:Ag P σ σ':=ag _ λa h=>⟨(i.pend a h).1,m.pend a h⟩
 refine⟨⟨⟨λx d b e=> ?_,λx a h=> ?_,i.env.keys⟩,i.sep,i.own,i.src,λa o e=> ?_,λa h=>⟨?_,(i.pend a h).2⟩,i.newS,i.pin⟩,agP⟩
 ·obtain⟨v,E,p⟩:=i.env.at_ x d b e;exact⟨v,E,p.ag<|g x⟩
 ·obtain⟨l,e⟩:=i.env.dom x a h;exact⟨l,((g x).at_ a h).trans e⟩
 ·refine k a o (i.kept a o e) λC=> ?_;exact ns<|(m.own a C).symm.trans e
 ·obtain⟨l,e⟩:=(i.pend a h).1;exact⟨l,(agP.at_ a h).trans e⟩
theorem wZ(V:MDOK G cv e)(U:MDOKs G cv es):MDOKs G cv (e::es):=λN S P Δ ρ fp σ Q t X i h k=>
 V N S P Δ ρ fp σ _ _ X i h λd u W v O F D w B c r=>
  U N S (F++P) u ρ W O _ _ X ⟨w.env,w.sep,w.own,w.src,w.kept,λa T=>by
   rcases Qt.mp T with T|T
   ·exact⟨B.dom a T,c.out a T⟩
   ·exact w.pend a T,w.newS,w.pin⟩ D λz J H I C s Y l M m g=>by
  have j:Disj F s.flatten:=λa T R=>m.pend a (Ql _ T) R;refine k _ J H _ C (F::s) Y (l.weak λa T=>Qe _ T) (.cons (B.ag g.left) (λo0=>c.nd) (λp K o0 a T R=> ?_) M) ⟨?_,?_,?_,?_⟩<|r.trans g.right
  ·exact j a T<|List.mem_flatten.mpr ⟨p.2,(Kx K).2,R⟩
  ·exact Qv.mpr ⟨c.nd,m.nd,λa T b R q=>j a T<|q▸R⟩
  ·intro a T
   rcases Qt.mp T with T|T
   ·exact c.own a T
   ·exact m.own a T
  ·intro a T y x
   rcases Qt.mp T with T|T
   ·exact(l.pend a<|Ql _ T).2 y x
   ·exact m.out a T y x
  ·intro a T f
   rcases Qt.mp f with f|f
   ·exact c.pend a T f
   ·exact m.pend a (Qe _ T) f
mutual
theorem oA:∀e:E,MDOK G cv e
 | .loc _=>zj
 | .sub .. =>λo0 o0 o0 o0 o0 o0 o0 o0 o0 o0 i h k=>bJ (aV _) i h k
 | .tup l=>z6<|mh l
 | .call .. =>λo0 o0 o0 o0 o0 o0 o0 o0 o0 o0 i h k=>bJ (aV _) i h k
 | .none=>λo0 o0 o0 o0 o0 o0 o0 o0 o0 o0 i h k=>bJ (aV _) i h k
 | .bool _=>λo0 o0 o0 o0 o0 o0 o0 o0 o0 o0 i h k=>bJ (aV _) i h k
 | .int _=>λo0 o0 o0 o0 o0 o0 o0 o0 o0 o0 i h k=>bJ (aV _) i h k
 | .str _=>λo0 o0 o0 o0 o0 o0 o0 o0 o0 o0 i h k=>bJ (aV _) i h k
 | .glob _=>λo0 o0 o0 o0 o0 o0 o0 o0 o0 o0 i h k=>bJ (aV _) i h k
 | .bin .. =>λo0 o0 o0 o0 o0 o0 o0 o0 o0 o0 i h k=>bJ (aV _) i h k
 | .not_ _=>λo0 o0 o0 o0 o0 o0 o0 o0 o0 o0 i h k=>bJ (aV _) i h k
 | .and_ .. =>λo0 o0 o0 o0 o0 o0 o0 o0 o0 o0 i h k=>bJ (aV _) i h k
 | .or_ .. =>λo0 o0 o0 o0 o0 o0 o0 o0 o0 o0 i h k=>bJ (aV _) i h k
 | .isNone _=>λo0 o0 o0 o0 o0 o0 o0 o0 o0 o0 i h k=>bJ (aV _) i h k
 | .notNone _=>λo0 o0 o0 o0 o0 o0 o0 o0 o0 o0 i h k=>bJ (aV _) i h k
 | .cmp .. =>λo0 o0 o0 o0 o0 o0 o0 o0 o0 o0 i h k=>bJ (aV _) i h k
 | .cmp2 .. =>λo0 o0 o0 o0 o0 o0 o0 o0 o0 o0 i h k=>bJ (aV _) i h k
 | .list _=>λo0 o0 o0 o0 o0 o0 o0 o0 o0 o0 i h k=>bJ (aV _) i h k
 | .upto .. =>λo0 o0 o0 o0 o0 o0 o0 o0 o0 o0 i h k=>bJ (aV _) i h k
 | .from_ .. =>λo0 o0 o0 o0 o0 o0 o0 o0 o0 o0 i h k=>bJ (aV _) i h k
 | .comp .. =>λo0 o0 o0 o0 o0 o0 o0 o0 o0 o0 i h k=>bJ (aV _) i h k
 | .compIf .. =>λo0 o0 o0 o0 o0 o0 o0 o0 o0 o0 i h k=>bJ (aV _) i h k
 | .bi .. =>λo0 o0 o0 o0 o0 o0 o0 o0 o0 o0 i h k=>bJ (aV _) i h k
 | .isi .. =>λo0 o0 o0 o0 o0 o0 o0 o0 o0 o0 i h k=>bJ (aV _) i h k
 | .meth .. =>λo0 o0 o0 o0 o0 o0 o0 o0 o0 o0 i h k=>bJ (aV _) i h k
 | .dict0=>λo0 o0 o0 o0 o0 o0 o0 o0 o0 o0 i h k=>bJ (aV _) i h k
 | .get .. =>λo0 o0 o0 o0 o0 o0 o0 o0 o0 o0 i h k=>bJ (aV _) i h k
 | .sd .. =>λo0 o0 o0 o0 o0 o0 o0 o0 o0 o0 i h k=>bJ (aV _) i h k
 | .lr .. =>λo0 o0 o0 o0 o0 o0 o0 o0 o0 o0 i h k=>bJ (aV _) i h k
 | .mcall .. =>λo0 o0 o0 o0 o0 o0 o0 o0 o0 o0 i h k=>bJ (aV _) i h k
 | .attr .. =>λo0 o0 o0 o0 o0 o0 o0 o0 o0 o0 i h k=>bJ (aV _) i h k
theorem mh:∀es:List E,MDOKs G cv es
 |[]=>λN S P Δ ρ fp σ Q Q' X i h k=>k [] Δ fp [] σ [] h i .nil .nil .refl
 |e::es=>wZ (oA e)<|mh es
end
end
structure Zip(σ:PH)(dx:D)(vx:PV)(A Fn B:List Jg)(ps:List D)(dn:D)(vn:PV):Prop where
 rd:RdF σ dn vn Fn
 da:∀a∈A,∃l:MO,σ a=Ja l.1
 db:∀a∈B,∃l:MO,σ a=Ja l.1
 upd:∀ (σ':PH) (f:D->Option D) (dn':D) (Fn':List Jg),Ag A σ σ'->Ag B σ σ'->RdF σ' dn' vn Fn'->f dn=Ja dn'->∃dx',updp ps f dx=Ja dx'/\RdF σ' dx' vx (A++(Fn'++B))
theorem Zip.ext{A Fn B:List Jg}{ps:List D}(z:Zip σ g L A Fn B ps n v)(x:Ext σ σ1):Zip σ1 g L A Fn B ps n v:=
 ⟨z.rd.ext x,λa h=>by obtain⟨l,e⟩:=z.da a h;exact⟨l,x a _ e⟩,λa h=>by obtain⟨l,e⟩:=z.db a h;exact⟨l,x a _ e⟩,λX f d F V gb r e=>z.upd X f d F ((Ag.of_ext x z.da).trans V) ((Ag.of_ext x z.db).trans gb) r e⟩
theorem Zip.here{d:D}(r:RdF σ d v F):Zip σ d v [] F [] [] d v:=
 ⟨r,λa h=>(bN h),λa h=>(bN h),λX f n A o0 o0 r e=>⟨n,e,by rw[Ky,QI];exact r⟩⟩
theorem jc:∀ (ps:List D) (i:D) (f:D->Option D),updp (ps++[i]) f=updp ps (dset1 i f)
 |[]=>λi f=>rfl
 |p::ps=>λi f=>by
  show dset1 p (updp (ps++[i]) f)=dset1 p (updp ps<|dset1 i f);rw[jc ps i f]
inductive ZipS(σ:PH)(dx:D)(vx:PV)(T:List Jg)(qs:List D)(d:D)(W:PV->Prop):Prop
 |mk (p:PV) (A' Fj B':List Jg) (e:W p) (e4:T=A'++(Fj++B')) (z:Zip σ dx vx A' Fj B' qs d p):ZipS σ dx vx T qs d W
theorem Zip.obj{ps:List D}{o:MO}(z:Zip σ u L A (a::(Q++(j++O))) B ps n (.ref a)){i d:D}(e:σ a=Ja o.1)(J:RdF σ d p j)
  (v:∀b∈Q++(j++O),∃l:MO,σ b=Ja l.1)
  (W:∀ (σ':PH) (f:D->Option D) (dn':D) (F:List Jg),Ag Q σ σ'->Ag O σ σ'->σ' a=Ja o.1->RdF σ' dn' p F->f d=Ja dn'->∃d2,dset1 i f n=Ja d2/\RdF σ' d2 (.ref a) (a::(Q++(F++O)))):
  Zip σ u L (A++(a::Q)) j (O++B) (ps++[i]) d p:=by
 refine⟨J,λb h=> ?_,λb h=> ?_,λσ' f dn' F g gb r w=> ?_⟩
 ·rcases Qt.mp h with h|h
  ·exact z.da b h
  ·cases h with
   |head=>exact⟨o,e⟩
   |tail _ h=>exact v b<|Ql _ h
 ·rcases Qt.mp h with h|h
  ·exact v b<|Qe _ (Qe _ h)
  ·exact z.db b h
 ·obtain⟨d2,k,M⟩:=W σ' f dn' F g.right.tail gb.left ((g.at_ a<|Qe _ (.head _)).trans e) r w;obtain⟨x,Y,X⟩:=z.upd σ' (dset1 i f) d2 (a::(Q++(F++O))) g.left gb.right M k;refine⟨x,by rw[jc];exact Y,?_⟩;have:A++(a::(Q++(F++O))++B)=(A++(a::Q))++(F++(O++B)):=by simp
  rw[<-this];exact X
theorem Zip.key{A Fn B:List Jg}{ps:List D}(z:Zip σ g L A Fn B ps (.dict ks l) V){d:D}(c:keyD i=Ja k)(h:dlook ks l k=Ja d):
  ZipS σ g L (A++(Fn++B)) (ps++[i]) d λp=>X2 λa v=>A3 (V= .ref a) (σ a=Ja (.dict ks v)) (klook ks v k=Ja p):=by
 obtain⟨a,v,G,rfl,e,T,rfl,r⟩:=z.rd;obtain⟨j,H,q⟩:=Qn.mp h;obtain⟨p,Q,O,Y,I,rfl,J,m⟩:=r.split j d q;refine⟨p,A++(a::Q),Y,O++B,⟨a,v,rfl,e,Qn.mpr ⟨j,H,I⟩⟩,by simp,z.obj (o:=⟨.dict ks v,rfl⟩) e J r.dom λX f n F S gb Z U w=> ?_⟩;have M:=m X n p F S gb U;rw[set_same I] at M;refine⟨.dict ks<|l.set j n,?_,a,v,_,rfl,Z,T,rfl,M⟩;show((keyD i).bind λk=>(kidx ks k).bind λj=>(l[j]?).bind λx=>(f x).map λy=>D.dict ks<|l.set j y)=_;rw[c];show((kidx ks k).bind λj=>(l[j]?).bind λx=>(f x).map λy=>D.dict ks<|l.set j y)=_;rw[H];show((l[j]?).bind λx=>(f x).map λy=>D.dict ks<|l.set j y)=_;rw[q];show((f d).map λy=>D.dict ks<|l.set j y)=_;rw[w];rfl
theorem Zip.sub{S:D}{A Fn B:List Jg}{ps:List D}(z:Zip σ S L A Fn B ps Z u){d:D}(V:RdF σ i C s)(hs:isScr Z=Jd)(h:dsub Z i=Ja d):
  ZipS σ S L (A++(Fn++B)) (ps++[i]) d λp=>∀Q:PV->Prop,Q p->wsub σ u C Q:=by
 induction Z using D.casesOn with
 |list l=>
  induction i using D.casesOn with
  |int n=>
   obtain⟨rfl,o0⟩:=V;obtain⟨a,v,G,rfl,e,T,rfl,r⟩:=z.rd;obtain⟨j,H,q⟩:=Qn.mp (show((place l.length n).bind λj=>l[j]?)=Ja d from h);obtain⟨p,W,O,Y,M,rfl,J,m⟩:=r.split j d q;have K:psub σ (.ref a) (.int n)=Ja p:=by
    show psubO (.int n) (σ a)=_;rw[e];show((place v.length n).bind λj=>v[j]?)=Ja p;rw[r.len,H];exact M
   have hq:plen σ (.ref a)=Ja v.length:=by
    show(match σ a with
     |some (.list l)=>Ja l.length
     |_=>Jb)=_
    rw[e]
   refine⟨p,A++(a::W),Y,O++B,gH hq T K,by simp,z.obj (o:=⟨.list v,rfl⟩) e J r.dom λX f I F g gb ea U c=> ?_⟩;have w:=m X I p F g gb U;rw[set_same M] at w;refine⟨.list<|l.set j I,?_,a,v,_,rfl,ea,T,rfl,w⟩;show((place l.length n).bind λj=>(l[j]?).bind λx=>(f x).map λy=>D.list<|l.set j y)=_;rw[H];show((l[j]?).bind λx=>(f x).map λy=>D.list<|l.set j y)=_;rw[q];show((f d).map λy=>D.list<|l.set j y)=_;rw[c];rfl
  |_=>first|exact bnx h|exact onx h|cases h
 |tup l=>
  induction i using D.casesOn with
  |int n=>
   obtain⟨rfl,o0⟩:=V;obtain⟨v,rfl,T,r⟩:=z.rd;obtain⟨j,H,q⟩:=Qn.mp (show((place l.length n).bind λj=>l[j]?)=Ja d from h);obtain⟨p,W,O,Y,M,rfl,J,m⟩:=r.split j d q;have K:psub σ (.tup v) (.int n)=Ja p:=by
    show((place v.length n).bind λj=>v[j]?)=Ja p;rw[r.len,H];exact M
   refine⟨p,A++W,Y,O++B,gH (n:=v.length) rfl T K,by simp,⟨J,λb R=> ?_,λb R=> ?_,λX f I F g gb U c=> ?_⟩⟩
   ·rcases Qt.mp R with R|R
    ·exact z.da b R
    ·exact r.dom b<|Ql _ R
   ·rcases Qt.mp R with R|R
    ·exact r.dom b<|Qe _ (Qe _ R)
    ·exact z.db b R
   ·have w:=m X I p F g.right gb.left U;rw[set_same M] at w;obtain⟨t,E,u2⟩:=z.upd X (dset1 (.int n) f) (.tup (l.set j I)) (W++(F++O)) g.left gb.right ⟨v,rfl,T,w⟩ (by
     show((place l.length n).bind λj=>(l[j]?).bind λx=>(f x).map λy=>D.tup (l.set j y))=_;rw[H];show((l[j]?).bind λx=>(f x).map λy=>D.tup (l.set j y))=_;rw[q];show((f d).map λy=>D.tup (l.set j y))=_;rw[c];rfl)
    refine⟨t,by rw[jc];exact E,?_⟩;have:A++((W++(F++O))++B)=(A++W)++(F++(O++B)):=by simp
    rw[<-this];exact u2
  |_=>first|exact bnx h|exact onx h|cases h
 |scr l=>exact tf hs
 |dict ks l=>
  obtain⟨k,N,h2⟩:=Qn.mp (show((keyD i).bind λk=>dlook ks l k)=Ja d from h);obtain⟨p,A',Y,B',⟨a,v,e0,e1,P⟩,e3,z'⟩:=z.key N h2;subst e0;exact⟨p,A',Y,B',nC e1 (l8 V N) P,e3,z'⟩
 |_=>first|exact bnx h|exact onx h|cases h
section
variable{G:Gx}{cv:Cl}
theorem kc{L:DRho}{T:Rho}{f:String->List Jg}(env:EnvE σ L T f):∀ (o:E) (Q:String->List D->D->Prop) (Q':Post),dpath G (aR cv) o L Q (λo0 o0=>False)->
  (∀x ps Z σ' I g n A Fn B,Q x ps Z->Ext σ σ'->L.get x=Ja (g,Jc)->T.get x=Ja n->f x=A++(Fn++B)->Zip σ' g n A Fn B ps Z I->Q' I σ')->we G cv o T σ Q' X
 |o,Q,Q',h,k=>by
  induction o using E.casesOn with
  |loc x=>
   obtain⟨⟨d,b⟩,e,N,Y⟩:=dB (show dOE (λp=>p.2=Jc/\Q x [] p.1) (L.get x) from h);cases N;obtain⟨v,W,r⟩:=env.at_ x d Jc e;show oV (λv=>Q' v σ) (T.get x);rw[W];exact k x [] d σ v d v [] (f x) [] Y (.refl σ) e W (by rw[QI,Ky]) (.here r)
  |sub a i=>
   refine kc env a _ _ h λx ps Z m I g n A Fn B h M e W J z=> ?_;refine aV i L T f m _ _ _ X (env.ext M) h (λS t C O R h V=> ?_) λo0 o0 o0 o0 o0 q o0=>q.elim;obtain⟨N,Y⟩:=h;obtain⟨d,w,Y⟩:=fT Y;obtain⟨p,y,F,K,j,s,c⟩:=(z.ext V.ext).sub V.rd N w;exact j _<|k x _ d O p g n y F K Y (M.trans V.ext) e W (J.trans s) c
  |_=>exact h.elim
theorem DRho.put_put:∀L:DRho,(L.put x u).put x v=L.put x v
 |[]=>rfl
 |(y,o)::r=>by
  by_cases h:y=x
  ·simp only[DRho.put_if,h,if_true]
  ·simp only[DRho.put_if,h,if_false,DRho.put_put r]
theorem lg{f:String->List Jg}{x:String}{F G:List Jg}:fset (fset f x F) x G=fset f x G:=by
 funext y;by_cases h:y=x
 ·subst h;rw[cM,cM]
 ·rw[b7 h,b7 h,b7 h]
theorem Inv.upd{N σ:PH}{S:DSrc}{L:DRho}{k:Rho}{f:String->List Jg}(i:Inv N S P L k σ f){ps:List D}(e:L.get x=Ja (g,Jc))(t:k.get x=Ja vx)
  (J:f x=A++((a::Z)++B))(z:Zip σ g vx A (a::Z) B ps dn (.ref a)){G':List Jg}(r':∀σ',Ag G' σ σ'->σ' a=Ja o'->RdF σ' dn' (.ref a) (a::G'))(T:G'.Nodup)(sub:∀b∈G',b∈Z\/b∈Fv)(m:MOK N [] f Fv):
  ∃n,updp ps (λo0=>Ja dn') g=Ja n/\Inv N S [] (L.put x (n,Jc)) k (σ.set a o') (fset f x<|A++((a::G')++B)):=by
 obtain⟨K,U⟩:=i.own x g e;have l:a∈f x:=by rw[J];exact Qe _<|.head _
 rw[J] at K;have Y:=Qv.mp K;have I:=QA.mp Y.2.1;have p:=Qv.mp I.2;have v:a∉A:=λq=>Y.2.2 a q a (.head _) rfl;have X:a∉B:=λq=>I.1 (Qe _ q);have O:a∉Z:=λq=>I.1 (Ql _ q);have V:a∉Fv:=λq=>m.out a q x l;have E:a∉G':=λq=>(sub a q).elim O V;obtain⟨la,ea⟩:=i.env.dom x a l;have ag:∀F:List Jg,a∉F->Ag F σ (σ.set a o'):=λF M=>⟨λb R=>PH.set_ne _ _ λq=>M (q▸R),λb o r s=>by
  rw[PH.set_ne]
  ·exact r
  ·rintro rfl;obtain rfl:=sj (ea.symm.trans r);exact ft (la.2.symm.trans s)⟩
 obtain⟨n,u1,u2⟩:=z.upd (σ.set a o') (λo0=>Ja dn') dn' (a::G') (ag A v) (ag B X) (r' _ (ag G' E)<|PH.set_same _ _ _) rfl;refine⟨n,u1,?_⟩;obtain⟨i1,m1⟩:=i.move (d':= .hole) (A:=[]) (B:=[]) (F:=f x) e t rfl (by rw[QI,Ky]);obtain⟨i2,o0⟩:=i1.called m1 (i.env.dom x) (σ':=σ.set a o') λb o eb M=>by
  rw[PH.set_ne]
  ·exact eb
  ·rintro rfl;exact M l
 have j:∀b∈A++((a::G')++B),b∈f x\/b∈Fv:=λb R=>by
  rw[J]
  rcases Qt.mp R with q|q
  ·exact .inl<|Ql _ q
  ·rcases Qt.mp q with q|q
   ·cases q with
    |head=>exact .inl<|Qe _ (.head _)
    |tail _ q=>exact(sub b q).imp_left λq=>Qe _<|.tail _ (Ql _ q)
   ·exact .inl<|Qe _ (.tail _<|Qe _ q)
 have hV:∀b∈Fv,b∉A/\b∉B:=λb R=>⟨λq=>m.out b R x<|by rw[J];exact Ql _ q,λq=>m.out b R x<|by rw[J];exact Qe _<|.tail _ (Qe _ q)⟩
 have u:∀y,y≠x->∀b∈A++((a::G')++B),b∉f y:=λy W b R q=>by
  rcases j b R with w|w
  ·exact i.sep x g e y W b w q
  ·exact m.out b w y q
 have H:(A++((a::G')++B)).Nodup:=by
  refine Qv.mpr ⟨Y.1,QA.mpr ⟨λq=>(Qt.mp q).elim E X,Qv.mpr ⟨T,p.2.1,λb R c C q=> ?_⟩⟩,λb R c C q=> ?_⟩
  ·subst q
   rcases sub b R with w|w
   ·exact p.2.2 b w b C rfl
   ·exact(hV b w).2 C
  ·subst q
   rcases Qt.mp (show b∈(a::G')++B from C) with w|w
   ·cases w with
    |head=>exact v R
    |tail _ w=>
     rcases sub b w with w|w
     ·exact Y.2.2 b R b (.tail _<|Ql _ w) rfl
     ·exact(hV b w).1 R
   ·exact Y.2.2 b R b (.tail _<|Qe _ w) rfl
 have Q:=(i2.weak (P':=[]) λa h=>(bN h)).put (x:=x) (b:=Jc) u2 (λo0=>⟨⟨H,λb R=>(j b R).elim (U b) (m.own b)⟩,λy W b R q=>by
   rw[b7 W] at q;exact u y W b R q⟩) (λy d W o0 b R q=>by rw[b7 W] at R;exact u y W b q R) (λb R=>(j b R).elim (i.src x b) λq=>i.newS b (m.own b q)) (λb R=>(bN R)) (λw q=>by have:=i.pin x w q;obtain rfl:=sj (t.symm.trans this);rfl)
 rw[DRho.put_put,Rho.put_self _ t,lg] at Q;exact Q
end
structure RetOK(N:PH)(S:DSrc)(σ':PH)(d:D)(b:Bool)(v:PV)(F:List Jg):Prop where
 rd:RdF σ' d v F
 kept:Ext N σ'
 own:b=Jc->F.Nodup/\∀a∈F,N a=Jb
 src:∀a∈F,S a
structure QR(N:PH)(S:DSrc)(Q:bT)(Q':SPost):Prop where
 next:∀Δ ρ σ fp,Q .next Δ->Inv N S [] Δ ρ σ fp->Q' .next ρ σ
 ret:∀d b Δ v ρ σ F,Q (.ret d b) Δ->RetOK N S σ d b v F->Q' (.ret v) ρ σ
def XR(N:PH)(S:DSrc)(X:DSX)(H:fF):Prop:=∀c d ws Δ ρ σ fp F,X c d Δ->Inv N S [] Δ ρ σ fp->RdFs σ d ws F->MOK N [] fp F->H ⟨c,ws⟩ ρ σ
section
variable{N σ σ':PH}{S:DSrc}{P:List Jg}{Δ:DRho}{ρ:Rho}{fp:String->List Jg}
theorem Inv.less(h:Inv X S P Δ ρ σ fp)(x:Ext N X)(q:∀a,N a=Jb->S a):Inv N S P Δ ρ σ fp:=
 ⟨h.env,h.sep,λn d e=>⟨(h.own n d e).1,λa T=>x.new<|(h.own n d e).2 a T⟩,h.src,x.trans h.kept,h.pend,q,h.pin⟩
theorem RetOK.less{d:D}(h:RetOK X S σ d b v F)(x:Ext N X):RetOK N S σ d b v F:=
 ⟨h.rd,x.trans h.kept,λe=>⟨(h.own e).1,λa T=>x.new<|(h.own e).2 a T⟩,h.src⟩
theorem vN{e:D}(h:(Δ.frz t).get y=Ja (e,Jc)):Δ.get y=Ja (e,Jc)/\∀xs,t=Ja xs->y∈xs->e.atom=Jc:=by
 induction t with
 |none=>exact⟨h,λxs q=>(ns q)⟩
 |some xs=>
  rw[tO,DRho.get_map (λx q=>if xs.contains x then(q.1,q.1.atom&&q.2) else q)] at h;obtain⟨⟨d,c⟩,T,w⟩:=Qs.mp h;by_cases hx:xs.contains y=Jc
  ·rw[Y8 hx] at w
   induction C:d.atom with
   |false=>simp only[C,Bool.false_and] at w;cases w
   |true=>simp only[C,Yt] at w;cases w;exact⟨T,λo0 o0 o0=>C⟩
  ·rw[Y7 hx] at w;cases w;refine⟨T,λs q W=> ?_⟩;obtain rfl:=sj q;exact absurd (by simpa using W) hx
theorem Inv.away(h:Inv N S P Δ ρ σ fp)(p:PartOK σ fp t F)(q:(Δ.frz t).get y=Ja (e,Jc)):Disj (fp y) F:=λa T b=>by
 obtain⟨c,Z⟩:=vN q;obtain⟨l,x⟩:=h.env.dom y a T
 induction t with
 |none=>have:=(p.own rfl).2 a b;exact sn<|x.symm.trans this
 |some s=>
  rcases p.al s rfl a b with w|⟨z,R,w⟩
  ·exact sn<|x.symm.trans w
  ·by_cases V:z=y
   ·subst V;obtain⟨v,o0,r⟩:=h.env.at_ z e Jc c;rw[r.atom (Z s rfl R)] at T;cases T
   ·exact h.sep y e c z V a T w
theorem Inv.srcP(h:Inv N S P Δ ρ σ fp)(p:PartOK σ fp t F):∀a∈F,S a:=λa T=>by
 induction t with
 |none=>exact h.newS a<|h.new0 ((p.own rfl).2 a T)
 |some x=>
  rcases p.al x rfl a T with w|⟨z,o0,w⟩
  ·exact h.newS a<|h.new0 w
  ·exact h.src z a w
theorem Inv.puts:∀ (xs:List String) (ds:List D) (vs:List PV) (F:List Jg) (Δ:DRho) (ρ:Rho) (fp:String->List Jg),Inv N S [] Δ ρ σ fp->ds.length=xs.length->RdFs σ ds vs F->(b=Jc->MOK N [] fp F)->
  (∀y e,Δ.get y=Ja (e,Jc)->Disj (fp y) F)->(∀a∈F,S a)->(∀x∈xs,S.pin x=Jb)->vs.length=xs.length/\∃f,Inv N S [] (Δ.puts xs ds b) (ρ.puts xs vs) σ f:=by
 intro xs
 induction xs with
 |nil=>
  intro ds vs F Δ ρ fp h l r _ _ _ _
  induction ds using List.casesOn with
  |cons=>cases l
  |nil=>obtain⟨rfl,rfl⟩:=r;exact⟨rfl,fp,h⟩
 |cons x xs A=>
  intro ds vs F Δ ρ fp h l V R o s n
  induction ds using List.casesOn with
  |nil=>cases l
  |cons d ds=>
   obtain⟨p,ps,X,t,L,Z,v,M⟩:=V;subst L Z;have i:=h.put (x:=x) (b:=b) v (λq=>⟨⟨(Qv.mp (R q).nd).1,λa T=>(R q).own a (Ql _ T)⟩,λy W a T=>(R q).out a (Ql _ T) y⟩)
    (λy e W q a T j=>o y e q a T<|Ql _ j) (λa T=>s a<|Ql _ T) (λa T=>(bN T)) (λw q=>by exact ns<|(n x<|.head _).symm.trans q)
   have hx:∀e,(Δ.put x (d,b)).get x=Ja (e,Jc)->b=Jc:=λe q=>by
    have m:=DRho.get_mem _ q;rw[DRho.put_keys] at m;rw[DRho.get_put _ m] at q;cases q;rfl
   have J:b=Jc->Disj X t:=λq a T j=>(Qv.mp (R q).nd).2.2 a T a j rfl;obtain⟨U,f,E⟩:=A ds ps t _ _ _ i (Nat.succ.inj l) M (λq=>⟨(Qv.mp (R q).nd).2.1,λa T=>(R q).own a (Qe _ T),λa T y W=>by
     by_cases Q:y=x
     ·subst Q;rw[cM] at W;exact J q a W T
     ·rw[b7 Q] at W;exact(R q).out a (Qe _ T) y W,λa T=>(bN T)⟩)
    (λy e q a T j=>by
     by_cases Q:y=x
     ·subst Q;rw[cM] at T;exact J (hx e q) a T j
     ·rw[b7 Q] at T;rw[DRho.get_put_ne Q] at q;exact o y e q a T (Qe _ j)) (λa T=>s a (Qe _ T)) (λy W=>n y (.tail _ W))
   exact⟨Ub (· +1) U,f,E⟩
theorem Inv.bindT{tg:Tg}{d:D}(h:Inv N S [] Δ ρ σ fp)(r:RdF σ d v F)(e:dU tg d b Δ=Ja H)(R:b=Jc->MOK N [] fp F)(o:∀y e,Δ.get y=Ja (e,Jc)->Disj (fp y) F)(E:∀a∈F,S a)(n:∀x∈tg.names,S.pin x=Jb):
  ∃ρ' f,bindT tg v ρ=Ja ρ'/\Inv N S [] H ρ' σ f:=by
 induction tg with
 |name x=>
  obtain rfl:=sj e;exact⟨_,_,rfl,h.put r (λq=>⟨⟨(R q).nd,(R q).own⟩,λy o0 a T=>(R q).out a T y⟩) (λy e o0 q=>o y e q) E (λa T=>(bN T)) λw q=>by exact ns<|(n x<|.head _).symm.trans q⟩
 |tup Z=>
  induction d using D.casesOn with
  |tup s=>
   obtain⟨l,rfl,M,r⟩:=r;by_cases q:s.length=Z.length
   ·have g:Ja (Δ.puts Z s b)=Ja H:=by rw[<-e];exact(Y8 q).symm
    obtain rfl:=sj g;obtain⟨p,f,Y⟩:=Inv.puts (b:=b) Z s l F Δ ρ fp h q r R o E n;exact⟨_,f,Y8 p,Y⟩
   ·have g:Jb=Ja H:=by rw[<-e];exact(Y7 q).symm
    exact ns g
  |_=>first|exact bnx e|exact onx e|cases e
end
def Pins(P:DSrc)(f:String->Bool):Prop:=∀x v,P.pin x=Ja v->f x=Jc
theorem Pins.off{P:DSrc}{f:String->Bool}(h:Pins P f)(hx:f x=Jd):P.pin x=Jb:=by
 induction e:P.pin x with
 |none=>rfl
 |some v=>exact tf<|(h x v e).symm.trans hx
theorem Pins.imp{f g:String->Bool}(h:Pins P f)(k:∀x,f x=Jc->g x=Jc):Pins P g:=λx v e=>k x<|h x v e
section
variable(G:Gx)(cv cu:Cl)
def SDOK(s:S):Prop:=∀ (N:PH) (P:DSrc) (Δ:DRho) (ρ:Rho) (fp:String->List Jg) (σ:PH) (Q:bT) (X:DSX) (r:SPost) (H:fF),Inv N P [] Δ ρ σ fp->Pins P (S.noas · s)->dws G (aR cv) (aR cu) s Δ Q X->
 QR N P Q r->XR N P X H->ws G cv cu s ρ σ r H
def SDOKs(s:List S):Prop:=∀ (N:PH) (P:DSrc) (Δ:DRho) (ρ:Rho) (fp:String->List Jg) (σ:PH) (Q:bT) (X:DSX) (r:SPost) (H:fF),Inv N P [] Δ ρ σ fp->Pins P (S.noass · s)->dwss G (aR cv) (aR cu) s Δ Q X->
 QR N P Q r->XR N P X H->wss G cv cu s ρ σ r H
end
section
variable{G:Gx}{cv cu:Cl}
theorem XR.ext{fp:String->List Jg}(h:XR N P X H)(i:Inv N P [] Δ ρ σ fp){ws:List PV}(q:X c ds Δ)(x:XOK σ σ' ds ws F):H ⟨c,ws⟩ ρ σ':=
 h c ds ws Δ ρ σ' fp F q (i.ext x.ext) x.rd ⟨x.nd,λa T=>i.new0<|x.own a T,λa T y W=>(by obtain⟨l,e⟩:=i.env.dom y a W;exact ns<|(x.own a T).symm.trans e),λa T=>(bN T)⟩
theorem yN:SDOK G cv cu (.assign (.name x) e):=λN P Δ ρ fp σ Q X M H i p h q s=>
 aV e Δ ρ fp σ _ _ _ _ i.env h (λd t v O F h r=>q.next _ _ _ _ h (((i.ext r.ext).frz t).put r.rd (λb=>by
   have m:=i.fresh r.part (Ke.mp b);exact⟨⟨m.nd,m.own⟩,λy o0 a T=>m.out a T y⟩)
  (λy e o0 w=>i.away r.part w) (i.srcP r.part) (λa T=>(bN T)) λw e=>by rw[p.off (show(!(Tg.name x).names.contains x)=Jd by simp[Tg.names])] at e;exact ns e)) λo0 o0 o0 o0 o0 w x=>s.ext i w x
theorem z7:SDOK G cv cu (.assign (.tup xs) e):=λN P Δ ρ fp σ Q X M K i p h q s=>
 ⟨h.1,aV e Δ ρ fp σ _ _ _ _ i.env h.2 (λd t v j F h r=>by
  obtain⟨H,T,h⟩:=f9 h;obtain⟨O,f,m,n⟩:=((i.ext r.ext).frz t).bindT r.rd T (λb=>i.fresh r.part (Ke.mp b)) (λy e w=>i.away r.part w) (i.srcP r.part) (λy W=>p.off (show(!(Tg.tup xs).names.contains y)=Jd by simpa using W));rw[m];exact q.next _ _ _ _ h n) λo0 o0 o0 o0 o0 w x=>s.ext i w x⟩
theorem Af:SDOK G cv cu (.ret e):=λN P Δ ρ fp σ Q X M O i p h q s=>by
 rcases h with h|h
 ·exact oA e N P [] Δ ρ fp σ _ _ _ i h λd H f v σ' F h n r m o0=>q.ret _ _ _ _ _ _ F h ⟨r,n.kept,λo0=>⟨m.nd,m.own⟩,λa D=>n.newS a<|m.own a D⟩
 ·exact aV e Δ ρ fp σ _ _ _ _ i.env h (λd t v T F h r=>q.ret _ _ _ _ _ _ F h ⟨r.rd,i.kept.trans r.ext,λb=>by
   have m:=i.fresh r.part (Ke.mp b);exact⟨m.nd,m.own⟩,i.srcP r.part⟩) λo0 o0 o0 o0 o0 w x=>s.ext i w x
theorem Ah(R:SDOKs G cv cu b)(T:SDOKs G cv cu o):SDOK G cv cu (.if_ t b o):=λN P Δ ρ fp σ Q X M H i p h q s=>
 aV t Δ ρ fp σ _ _ _ _ i.env h (λd g v m F h r=>by
  obtain⟨c,rfl,h⟩:=dM h;rw[r.rd.1]
  induction c with
  |true=>exact R N P Δ ρ fp m Q X M H (i.ext r.ext) (p.imp λx e=>(Qg.mp (show(S.noass x b&&S.noass x o)=Jc from e)).1) h q s
  |false=>exact T N P Δ ρ fp m Q X M H (i.ext r.ext) (p.imp λx e=>(Qg.mp (show(S.noass x b&&S.noass x o)=Jc from e)).2) h q s) λo0 o0 o0 o0 o0 w x=>s.ext i w x
theorem vg{args:List E}:SDOK G cv cu (.raise c args):=λN P Δ ρ fp σ Q X t H i p h q s=>
 ⟨h.1,cN args Δ ρ fp σ _ _ _ _ i.env h.2 (λd J m j h x r=>by
  obtain⟨F,v,g⟩:=r.rds.take (G.flds c).length;obtain⟨o,u⟩:=r.part.own h.1;exact s.ext i h.2 ⟨v,x,o.sublist g,λa T=>u a (g.subset T)⟩) λo0 o0 o0 o0 o0 w x=>s.ext i w x⟩
theorem QR.fl{K:DRho->Prop}{K':Rho->PH->Prop}(q:QR N P Q Q')(k:∀Δ ρ σ fp,K Δ->Inv N P [] Δ ρ σ fp->K' ρ σ):QR N P (donFl K Q) (onFl K' Q'):=⟨k,q.ret⟩
theorem yh:SDOKs G cv cu []:=λN P Δ ρ fp σ Q X r H i p h q x=>q.next _ _ _ _ h i
theorem vt(U:SDOK G cv cu s)(n:SDOKs G cv cu r):SDOKs G cv cu (s::r):=λN P Δ ρ fp σ Q X t H i p h q O=>
 U N P Δ ρ fp σ _ X _ H i (p.imp λx e=>(Qg.mp (show(S.noas x s&&S.noass x r)=Jc from e)).1) h (q.fl λu j m f E w=>n N P u j f m Q X t H w (p.imp λx e=>(Qg.mp (show(S.noas x s&&S.noass x r)=Jc from e)).2) E q O) O
end
section
variable{G:Gx}{cv cu:Cl}
theorem MOK.one{fp:String->List Jg}(m:MOK N P fp F):MOK N [] fp F:=⟨m.nd,m.own,m.out,λa h=>(bN h)⟩
theorem pk{ds:List D}{l:List PV}{F:List Jg}(r:RdFs σ ds l F){d:D}{Fv:List Jg}(S:RdF σ d v Fv)(x:F.Nodup)(V:Fv.Nodup)(J:Disj Fv F):
  ∃G',RdFs σ (ds.set j d) (l.set j v) G'/\G'.Nodup/\∀b∈G',b∈F\/b∈Fv:=by
 by_cases H:j<ds.length
 rotate_left
 ·rw[List.set_eq_of_length_le (Nat.le_of_not_lt H),List.set_eq_of_length_le (by rw[r.len];exact Nat.le_of_not_lt H)];exact⟨F,r,x,λb h=> .inl h⟩
 obtain⟨p,A,B,y,I,rfl,L,g⟩:=r.split j ds[j] (Qf H);have n:=Qv.mp x;have z:=Qv.mp n.2.1;refine⟨A++(Fv++B),g σ d v Fv .refl .refl S,Qv.mpr ⟨n.1,Qv.mpr ⟨V,z.2.1,λa T b h q=> ?_⟩,λa T b h q=> ?_⟩,λb h=> ?_⟩
 ·subst q;exact J a T<|Qe _ (Qe _ h)
 ·subst q
  rcases Qt.mp h with w|w
  ·exact J a w<|Ql _ T
  ·exact n.2.2 a T a (Qe _ w) rfl
 ·rcases Qt.mp h with w|w
  ·exact .inl<|Ql _ w
  ·rcases Qt.mp w with w|w
   ·exact .inr w
   ·exact .inl<|Qe _ (Qe _ w)
theorem RdFs.snoc(r:RdFs σ ds l F){d:D}(S:RdF σ d v Fv):RdFs σ (ds++[d]) (l++[v]) (F++Fv):=r.app ⟨v,[],Fv,[],rfl,(QI _).symm,S,rfl,rfl⟩
theorem rL{ks:List (List KA)}{l:List PV}{F:List Jg}(r:RdFs σ ds l F)(T:l.length<lim)(M:ks.length=l.length){d:D}{Fv:List Jg}(S:RdF σ d v Fv)(x:F.Nodup)(V:Fv.Nodup)(J:Disj Fv F):
  ∃G',(∀σ',Ag G' σ σ'->σ' a=Ja (kset ks l k v)->RdF σ' (dkset ks ds k d) (.ref a) (a::G'))/\G'.Nodup/\∀b∈G',b∈F\/b∈Fv:=by
 unfold kset dkset;cases kidx ks k with
 |some j=>
  obtain⟨G',Z,g,H⟩:=pk (j:=j) r S x V J;exact⟨G',λσ' ag e=>⟨a,_,G',rfl,e,by rw[YA];exact⟨KJ T,M⟩,rfl,Z.ag ag⟩,g,H⟩
 |none=>
  refine⟨F++Fv,λσ' ag e=>⟨a,_,_,rfl,e,by rw[QD,QD,M];exact⟨T,rfl⟩,rfl,(r.snoc S).ag ag⟩,Qv.mpr ⟨x,V,λb h c C q=>J c C<|q▸h⟩,λb h=>Qt.mp h⟩
theorem y4:SDOK G cv cu (.setIdx o i e):=λN P Δ ρ fp σ Q X Q' X' iv pn h q xr=>
 oA e N P [] Δ ρ fp σ _ _ _ iv h λd u g v ae F h H rv m o0=>
 kc H.env o _ _ h λx ps dn ac vn dx vx A Fn B h U ex ev J z=>
 aV i u ρ g ac _ _ _ _ (H.env.ext U) h (λdi t vi V Fi h I=>by
  have L:=H.ext<|U.trans I.ext;have s:=z.ext I.ext;have nd:=(L.own x dx ex).1;rw[J] at nd;have c:=rv.ext<|U.trans I.ext;have f:∀ {O:D} {W:D} {M:PH} {C:String->List Jg},dput u x ps O (λab=>Q .next ab)->updp ps (λo0=>Ja O) dx=Ja W->Inv N P [] (u.put x (W,Jc)) ρ M C->Q' .next ρ M:=λh Y Z=>by
   obtain⟨⟨aa,b⟩,e1,h⟩:=dB h;rw[ex] at e1;cases e1;obtain⟨aa,e2,h⟩:=fT h;obtain rfl:=sj<|Y.symm.trans e2;exact q.next _ _ _ _ h Z
  induction dn using D.casesOn with
  |list l=>
   obtain⟨n,rfl,h⟩:=cF h;obtain⟨j,hj,h⟩:=gA h;have hv:=I.rd.1;obtain⟨a,K,Gn,e3,ea,T,S,r⟩:=s.rd;subst e3 S hv;refine .inr ?_;show onO _ (V a);rw[ea];show oNat _ (place K.length n);rw[r.len,hj];refine⟨r.len▸T,?_⟩;have y:=(QA.mp (Qv.mp nd).2.1).2;obtain⟨G',g1,g2,g3⟩:=pk (j:=j) r c (Qv.mp y).1 m.nd λb R hg=>m.out b R x (by rw[J];exact Qe _<|.tail _ (Ql _ hg));obtain⟨W,Y,Z⟩:=L.upd ex ev J s (dn':= .list (l.set j d)) (o':= .list (K.set j v)) (λad ag e=>⟨a,_,G',rfl,e,by rw[YA];exact T,rfl,g1.ag ag⟩) g2 g3 m.one;exact f h Y Z
  |dict ks l=>
   obtain⟨a,K,Gn,e3,ea,T,S,r⟩:=s.rd;subst e3 S;refine .inl ?_;show onDO _ (V a);rw[ea];have p:K.length<lim:=by rw[r.len];exact h.1
   refine⟨p,rS I.rd h.2 λkey h=> ?_⟩;have y:=(QA.mp (Qv.mp nd).2.1).2;obtain⟨G',g1,g2,g3⟩:=rL (ks:=ks) (a:=a) (k:=key) r p T.2 c (Qv.mp y).1 m.nd λb R hg=>m.out b R x (by rw[J];exact Qe _<|.tail _ (Ql _ hg));obtain⟨W,Y,Z⟩:=L.upd ex ev J s g1 g2 g3 m.one;exact f h Y Z
  |_=>exact h.elim) λo0 o0 o0 o0 o0 w o0=>w.elim
theorem lv{S:DSrc}{Δ:DRho}{ρ:Rho}{fp:String->List Jg}(i:Inv N S P Δ ρ σ fp){A Fn B:List Jg}{ps:List D}
  (ex:Δ.get x=Ja (u,Jc))(X:ρ.get x=Ja L)(F:fp x=A++(Fn++B))(z:Zip σ u L A Fn B ps Z I)(g:RdFs σ ds vs Fv)(mv:MOK N [] fp Fv){K:D->Prop}
  (h:dmeth m ds Z K)(k:∀dn' n M σ' f,K dn'->updp ps (λo0=>Ja dn') u=Ja n->Inv N S [] (Δ.put x (n,Jc)) ρ σ' f->K' M σ'):wmeth m I vs σ K':=by
 have nd:=(i.own x u ex).1;rw[F] at nd
 induction m with
 |append=>
  match ds,h,g with
  |[d],h,g=>
   obtain⟨l,rfl,E,p⟩:=i0 h;obtain⟨a,j,w,s,y,H,W,r⟩:=z.rd;subst s W;have hv:=g.len
   match vs,hv,g with
   |[v],_,g=>
    show onO _ (σ a);rw[y];have t:j.length<lim:=by rw[r.len];exact E
    have T:=(QA.mp (Qv.mp nd).2.1).2;obtain⟨O,Y,U⟩:=i.upd ex X F z (dn':= .list (l++[d])) (o':= .list (j++[v])) (λσ' ag e=>⟨a,_,_,rfl,e,by rw[QD];exact t,rfl,(r.app g).ag ag⟩) (Qv.mpr ⟨(Qv.mp T).1,mv.nd,λb R c C q=>by
      subst q;exact mv.out b C x (by rw[F];exact Qe _ (.tail _ (Ql _ R)))⟩) (λb R=>Qt.mp R) mv
    exact⟨t,k _ _ _ _ _ p Y U⟩
theorem ArgsR.rds{ds:List D}{F:List (List Jg)}(r:ArgsR σ (ds.map λd=>(d,Jc)) vs F):RdFs σ ds vs F.flatten:=by
 induction ds generalizing vs F with
 |nil=>cases r;exact⟨rfl,rfl⟩
 |cons d ds i=>cases r with|cons f M y u=>exact⟨_,_,_,_,rfl,rfl,f,i u⟩
theorem ky{d:D}(r:RdF σ d v F)(h:drecv m d):recv m σ v:=by
 have h:dLst (λo0=>True) d/\(recv m σ v=onL σ (λo0=>True) v):=by
  induction m with
  |_=>exact⟨h,rfl⟩
 rw[h.2];obtain⟨l,rfl,o0⟩:=i0 h.1;obtain⟨a,k,G,rfl,e,o0⟩:=r;show onL σ _ _;rw[jy e];trivial
theorem lu:∀ks:List (List KA),kidx ks k=Jb->kidx (ks++[k]) k=Ja ks.length
 |[]=>λo0=>Y8 rfl
 |y::r=>λh=>by
  have h:(if y=k then Ja 0 else(kidx r k).map (· +1))=Jb:=h;by_cases e:y=k
  ·exact sn<|(Y8 e).symm.trans h
  ·rw[Y7 e] at h;show(if y=k then Ja 0 else(kidx (r++[k]) k).map (· +1))=_;rw[Y7 e,lu r (Option.map_eq_none_iff.mp h)];rfl
theorem rQ:∀ {ks:List (List KA)},kidx ks k=Ja j->j<ks.length:=λ{ks}=>by
 induction ks generalizing j with
 |nil=>intro h;exact ns h
 |cons y r W=>
  intro h;have h:(if y=k then Ja 0 else(kidx r k).map (· +1))=Ja j:=h;by_cases e:y=k
  ·obtain rfl:=sj<|(Y8 e).symm.trans h;exact YC _
  ·rw[Y7 e] at h;obtain⟨i,E,rfl⟩:=Qs.mp h;exact WR<|W E
theorem ro{ks:List (List KA)}{l:List PV}(T:ks.length=l.length)(h:klook ks l k=Jb):klook (ks++[k]) (l++[v]) k=Ja v:=by
 have q:kidx ks k=Jb:=by
  induction e:kidx ks k with
  |none=>rfl
  |some j=>
   unfold klook at h;rw[e] at h;have h:l[j]? =Jb:=h;rw[Yb] at h;have:=rQ e;exact absurd this<|QT.mpr (zle (Kd T) h)
 unfold klook;rw[lu ks q];show(l++[v])[ks.length]? =_;rw[T,Wp<|Qz _,Nat.sub_self];rfl
theorem DRho.put_self:∀ρ:DRho,ρ.get x=Ja v->ρ.put x v=ρ
 |(y,o)::r,h=>by
  by_cases W:y=x
  ·simp only[DRho.get_if,W,if_true] at h;simp only[DRho.put_if,W,if_true,h]
  ·simp only[DRho.get_if,W,if_false] at h;simp only[DRho.put_if,W,if_false,DRho.put_self r h]
theorem wG{Δ:DRho}{ρ:Rho}{fp:String->List Jg}{args:List E}{key:List KA}(i:Inv N P [] Δ ρ σ fp)(q:QR N P Q Q')
  (ex:Δ.get x=Ja (.dict ks l,Jc))(W:ρ.get x=Ja (.ref a))(C:σ a=Ja (.dict ks K))(s:keyD dk=Ja key)(el:klook ks K key=Ja p)
  (h:dOD (λn=>drecv m n/\dwes G (aR cv) args Δ (λvs=>tjs vs=Jb/\dmeth m (fsts vs) n λdn'=>dOD (λd=>Q .next<|Δ.put x (d,Jc))<|dset1 dk (λo0=>Ja dn') (.dict ks l)) λo0 o0=>False) (dsub (.dict ks l) dk)):
  recv m σ p/\wes G cv args ρ σ (λvs O=>wmeth m p vs O λo0 σ1=>Q' .next ρ σ1) X':=by
 obtain⟨n,T,I,Y⟩:=fT h;obtain⟨R,e,c⟩:=Qn.mp (show((keyD dk).bind λk=>dlook ks l k)=Ja n from T);obtain rfl:=sj<|s.symm.trans e;obtain⟨M,v,r⟩:=i.env.at_ x _ _ ex;obtain rfl:=sj<|W.symm.trans v;obtain⟨p',A,y,B,⟨a',u,g,Z,f⟩,J,z⟩:=(Zip.here r).key s c;cases g;rw[C] at Z;cases Z;obtain rfl:=sj<|el.symm.trans f;refine⟨ky z.rd I,?_⟩;refine cN args Δ ρ fp σ _ _ _ _ i.env Y (λH vs O Fs h S V=> ?_) λo0 o0 o0 o0 o0 w o0=>w.elim;have F:fp x=A++(y++B):=by rw[<-J,QI,Ky]
 exact lv (i.ext S) ex W F (z.ext S) V.rds (i.fresh V.part h.1) h.2 λdn' j M X t b U L=>by
  obtain⟨d2,e,b⟩:=fT b;have U:dset1 dk (λo0=>Ja dn') (.dict ks l)=Ja j:=U;obtain rfl:=sj<|U.symm.trans e;exact q.next _ _ _ _ b L
theorem Au{args:List E}{fp:String->List Jg}(i:Inv N P [] Δ ρ σ fp)(h:dsd G (aR cv) m args Δ (λH=>Q .next H) x k)(q:QR N P Q Q'):
  ws G cv cu (.expr<|.meth (.sd (.loc x) k) m args) ρ σ Q' X':=by
 obtain⟨⟨d,b⟩,e,g,h⟩:=dB h;cases g;obtain⟨s,l,g,h⟩:=mL h;cases g;obtain⟨v,W,a,K,n,rfl,L,J,F,r⟩:=i.env.at_ x _ _ e;show oV _ (ρ.get x);rw[W];refine⟨?_,aV k Δ ρ fp σ _ _ _ _ i.env h (λdk t vk T Fk h X=> ?_) λo0 o0 o0 o0 o0 w o0=>w.elim⟩
 ·show onDO _ (σ a);rw[L];trivial
 have B:=X.ext a _ L;have f:=r.ext X.ext;have S:=i.ext X.ext;obtain⟨V,h⟩:=h;have D:K.length<lim:=by rw[r.len];exact V
 obtain⟨key,u,h⟩:=hU h;show onDO _ (T a);rw[B];refine⟨D,?_⟩;rw[l8 X.rd u]
 induction Z:dlook s l key with
 |some dn=>
  have O:dens s l key= .dict s l:=by unfold dens;rw[Z]
  rw[O,DRho.put_self _ e] at h;obtain⟨j,p,G',o0,o0,o0,g1,o0,o0⟩:=f.look Z;show(match klook s K key with
   |some v=>_
   |none=>_)
  rw[g1];exact wG S q e W B u g1 h
 |none=>
  have O:dens s l key= .dict (s++[key]) (l++[.list []]):=by unfold dens;rw[Z]
  rw[O] at h;show(match klook s K key with
   |some v=>_
   |none=>_)
  rw[ju f Z];intro b R;have Y:b∉fp x:=λw=>by obtain⟨o,U⟩:=S.env.dom x b w;exact ns<|R.symm.trans U
  have M:Ext T (T.set b (.list [])):=Ext.set R _;have i2:=S.ext M;have ac:b≠a:=λw=>Y (by rw[F,w];exact .head _);have I:MOK N [] fp [b]:=⟨QA.mpr ⟨λw=>(bN w),.nil⟩,λc C=>(Qk.mp C)▸S.new0 R,λc C y hy=>(by
   rw[Qk.mp C] at hy;obtain⟨o,U⟩:=S.env.dom y b hy;exact ns (R.symm.trans U)),λc C=>(bN C)⟩
  have rb:RdF (T.set b<|.list []) (.list []) (.ref b) [b]:=⟨b,[],[],rfl,PH.set_same _ _ _,QN _,rfl,rfl,rfl⟩
  have r2:=(f.ext M).snoc rb;have nd:=(i.own x _ e).1;rw[F] at nd;have z:Zip (T.set b<|.list []) (.dict s l) (.ref a) [] (a::n) [] [] (.dict s l) (.ref a):= .here ⟨a,K,n,rfl,M a _ B,J,rfl,f.ext M⟩;obtain⟨ab,u1,u2⟩:=i2.upd e W (by rw[F,QI,Ky]) z (dn':= .dict (s++[key]) (l++[.list []])) (o':= .dict (s++[key]) (K++[.ref b])) (G':=n++[b]) (Fv:=[b])
   (λaa ag e=>⟨a,_,_,rfl,e,by rw[QD,QD,J.2];exact⟨D,rfl⟩,rfl,r2.ag ag⟩) (Qv.mpr ⟨(QA.mp nd).2,I.nd,λc C c' A w=>by
    rw[Qk.mp A] at w;exact Y (by rw[F,<-w];exact .tail _ C)⟩) (λc C=>Qt.mp C) I
  obtain rfl:=sj u1;have hm:x∈keysD Δ:=DRho.get_mem _ e;refine wG u2 q (DRho.get_put _ hm) W (PH.set_same _ _ _) u (p:= .ref b) (ro J.2<|ju f Z) ?_;simp only[DRho.put_put];exact h
section
variable{o:E}{m:Me}{args:List E}{N:PH}{P:DSrc}{Δ:DRho}{ρ:Rho}{fp:String->List Jg}{σ:PH}{Q:bT}{Q':SPost}{X':fF}
theorem xi(i:Inv N P [] Δ ρ σ fp)(h:dmeE G (aR cv) m args Δ (λH=>Q .next H) (.loc x) (Ja x) Jb)(q:QR N P Q Q'):ws G cv cu (.expr (.meth (.loc x) m args)) ρ σ Q' X':=by
 obtain⟨⟨Z,b⟩,D,U⟩:=dB h.1;obtain⟨v,e,r⟩:=i.env.at_ x Z b D;show oV _ (ρ.get x);rw[e];refine⟨ky r U,?_⟩;refine mh args N P [] Δ ρ fp σ _ _ _ i h.2 λz u f J j I h w F s o0=> ?_;obtain⟨⟨d1,a⟩,T,E,p⟩:=dB h;cases E;obtain⟨K,O,M⟩:=w.env.at_ x d1 Jc T;obtain rfl:=sj<|e.symm.trans O;exact lv w T e (A:=[]) (B:=[]) (by rw[QI,Ky]) (.here M) F.rds s p λd n K X V k C y=>by obtain rfl:=sj C;exact q.next _ _ _ _ k y
theorem vJ(i:Inv N P [] Δ ρ σ fp)(h:dmeE G (aR cv) m args Δ (λH=>Q .next H) o Jb Jb)(q:QR N P Q Q'):ws G cv cu (.expr (.meth o m args)) ρ σ Q' X':=by
 refine kc i.env o _ _ h λx ps Z T n g L A Fn B h M ex v J z=> ?_;refine⟨ky z.rd h.1,?_⟩;refine cN args Δ ρ fp T _ _ _ _ (i.env.ext M) h.2 (λs D O j h W r=> ?_) λo0 o0 o0 o0 o0 w o0=>w.elim;exact lv (i.ext<|M.trans W) ex v J (z.ext W) r.rds ((i.ext M).fresh (r.part) h.1) h.2 λd b K X f k U V=>by
  obtain⟨⟨d1,a⟩,e,k⟩:=dB k;rw[ex] at e;cases e;obtain⟨d2,F,k⟩:=fT k;obtain rfl:=sj<|U.symm.trans F;exact q.next _ _ _ _ k V
end
theorem sS{t:E×E}(h:sdOf o=Ja t):o= .sd t.1 t.2:=by
 induction o using E.casesOn with
 |sd a k=>obtain rfl:=sj h;rfl
 |_=>first|exact bnx h|exact onx h|cases h
theorem w0{args:List E}:SDOK G cv cu (.expr (.meth o m args)):=λN P Δ ρ fp σ Q X Q' X' i p h q r=>by
 have h:dmeE G (aR cv) m args Δ (λH=>Q .next H) o (locOf o) (sdOf o):=h
 induction l:locOf o with
 |some x=>
  cases ja l;exact xi i h q
 |none=>
  rw[l] at h
  induction s:sdOf o with
  |some a=>
   rw[s] at h;have h:dsdL G (aR cv) m args Δ (λH=>Q .next H) a.2 (locOf a.1):=h
   induction T:locOf a.1 with
   |none=>rw[T] at h;exact h.elim
   |some x=>
    rw[T] at h;rw[sS s,ja T];exact Au i h q
  |none=>
   rw[s] at h;exact vJ i h q
theorem vV(O:∀Δ K X,dexpr G (aR cv) e Δ K X=dwe G (aR cv) e Δ (λo0 o0=>K Δ) λc l=>X c l Δ):SDOK G cv cu (.expr e):=λN P Δ ρ fp σ Q X Q' X' i p h q s=>by
 have h:dexpr G (aR cv) e Δ (λH=>Q .next H) X:=h;rw[O] at h;exact aV e Δ ρ fp σ _ _ _ _ i.env h (λd t v T F h r=>q.next _ _ _ _ h<|i.ext r.ext) λo0 o0 o0 o0 o0 w x=>s.ext i w x
theorem pN(b:List E):∀ (a:List E) (σ:PH) (Q:List PV->PH->Prop),wes G c (a++b) ρ σ Q X=wes G c a ρ σ (λvs σ1=>wes G c b ρ σ1 (λws O=>Q (vs++ws) O) X) X
 |[]=>λσ Q=>rfl
 |e::s=>λσ Q=>by
  have:(λv σ1=>wes G c (s++b) ρ σ1 (λvs O=>Q (v::vs) O) X)=λv σ1=>wes G c s ρ σ1 (λvs σ1=>wes G c b ρ σ1 (λws O=>Q (v::(vs++ws)) O) X) X:=by
   funext v σ1;exact pN b s σ1 _
  exact Ub (λK=>we G c e ρ σ K X) this
theorem uD:∀ {l a:List E} {x:String} {b:List E},spl Δ l=Ja (a,x,b)->l=a++ .loc x::b:=λ{l}=>by
 induction l with
 |nil=>exact λh=>ns h
 |cons e r i=>
  intro a x b h;have t:(spl Δ r).map (λq=>(e::q.1,q.2))=Ja (a,x,b)->e::r=a++ .loc x::b:=λh=>by
   obtain⟨⟨Y,n,c⟩,p,w⟩:=Qs.mp h;cases w;exact Ub (e:: ·)<|i p
  replace h:splO Δ r ((spl Δ r).map λq=>(e::q.1,q.2)) (locOf e)=_:=h
  induction T:locOf e with
  |none=>rw[T] at h;exact t h
  |some y=>
   rw[T] at h;replace h:cond (ownD<|Δ.get y) _ _=_:=h;by_cases d:ownD (Δ.get y)=Jc
   ·rw[d] at h;cases h;rw[ja T];rfl
   ·rw[Bool.not_eq_true] at d;rw[d] at h;exact t h
theorem qf{S:DSrc}{Δ:DRho}{fp:String->List Jg}{d:D}(i:Inv N S P Δ ρ σ fp)(ex:Δ.get x=Ja (d,Jc))(r:ERs σ fp σ' ds vs s):
  offs x ds=Jc->ArgsR σ' (lent ds) vs s/\owned (lent ds) s=[]/\∀F∈s,Disj (fp x) F:=by
 induction r with
 |nil=>exact λo0=>⟨.nil,rfl,λF h=>(bN h)⟩
 |@cons X t v F ds vs s r p q h W=>
  intro Y;obtain⟨k,u⟩:=Qg.mp (show(offT x t&&offs x ds)=Jc from Y);obtain⟨E,B,C⟩:=W u;refine⟨.cons r (λe=>(ft e)) (λp K e=> ?_) E,B,λI J=> ?_⟩
  ·obtain⟨y,g⟩:=Qi.mp (Kx K).1
   rcases e with e|e
   ·exact ft e
   ·rw[<-g.2] at e;exact ft e
  ·cases J with
   |tail _ J=>exact C I J
   |head=>
    intro a T b;obtain⟨l,c⟩:=i.env.dom x a T
    induction t with
    |none=>have:=(p.own rfl).2 a b;exact sn<|c.symm.trans this
    |some H=>
     rcases p.al H rfl a b with w|⟨z,R,w⟩
     ·exact sn<|c.symm.trans w
     ·have n:z≠x:=by rintro rfl;simp[offT,lF,R] at k
      exact i.sep x d ex z n a T w
theorem ArgsR.ext(C:ArgsR σ a v F)(x:Ext σ σ'):ArgsR σ' a v F:=by
 induction C with
 |nil=>exact .nil
 |cons r n d h i=>exact .cons (r.ext x) n d i
theorem ArgsR.app{a b:List (D×Bool)}(C:ArgsR σ a A O)(l:ArgsR σ b B I)(h:∀p∈a.zip O,∀q∈b.zip I,(p.1.2=Jc\/q.1.2=Jc)->Disj p.2 q.2):ArgsR σ (a++b) (A++B) (O++I):=by
 induction C with
 |nil=>exact l
 |@cons d c v F s w i r n j S W=>
  refine .cons r n (λp K e=> ?_) (W λp K q z=>h p (.tail _ K) q z);replace K:p∈(s++b).zip (i++I):=K;rw[List.zip_append (S.lens.2.symm)] at K
  rcases Qt.mp K with K|K
  ·exact j p K e
  ·exact h _ (.head _) p K e
theorem rk{a b:List (D×Bool)}{O I:List (List Jg)}(h:O.length=a.length):owned (a++b) (O++I)=owned a O++owned b I:=by
 induction a generalizing O with
 |nil=>induction O using List.casesOn with
  |nil=>rfl
  |cons=>cases h
 |cons p r i=>induction O using List.casesOn with
  |nil=>cases h
  |cons F s=>
   show(if p.2 then F else [])++owned (r++b) (s++I)=((if p.2 then F else [])++owned r s)++owned b I;rw[i (Nat.succ.inj h),Ks]
theorem Inv.back{S:DSrc}{Δ:DRho}{ρ:Rho}{fp:String->List Jg}(i:Inv N S [] Δ ρ σ fp){d d':D}(e:Δ.get x=Ja (d,Jc))(X:ρ.get x=Ja v)(o:IoOK σ (fp x) σ' d' v F):
  Inv N S [] (Δ.put x (d',Jc)) ρ σ' (fset fp x F):=by
 obtain⟨j,c⟩:=i.move (d':= .hole) (A:=[]) (B:=[]) (F:=fp x) e X rfl (by rw[QI,Ky]);obtain⟨u,o0⟩:=j.called c (i.env.dom x) o.kept;have T:=u.put (x:=x) (b:=Jc) o.rd (λo0=>⟨⟨o.nd,λb h=>(o.own b h).elim i.new0 ((i.own x d e).2 b)⟩,λy W b h q=>by
   rw[b7 W] at q
   rcases o.own b h with w|w
   ·obtain⟨l,p⟩:=i.env.dom y b q;exact ns<|w.symm.trans p
   ·exact i.sep x d e y W b w q⟩) (λy g W o0 b h q=>by
   rw[b7 W] at h
   rcases o.own b q with w|w
   ·obtain⟨l,p⟩:=i.env.dom y b h;exact ns<|w.symm.trans p
   ·exact i.sep x d e y W b w h) (λb h=>(o.own b h).elim (λw=>i.newS b (i.new0 w)) (i.src x b)) (λb h=>(bN h)) (λw q=>by have:=i.pin x w q;obtain rfl:=sj (X.symm.trans this);rfl)
 rw[DRho.put_put,Rho.put_self _ X,lg] at T;exact T
theorem Ao{args:List E}{fp:String->List Jg}(i:Inv N P [] Δ ρ σ fp)(h:dio G (aR cv) f Δ (λL=>Q .next L) (spl Δ args))(q:QR N P Q Q'):
  ws G cv cu (.expr<|.call f args) ρ σ Q' X':=by
 induction s:spl Δ args with
 |none=>rw[s] at h;exact h.elim
 |some t=>
  obtain⟨a,x,b⟩:=t;rw[s] at h;rw[uD s];refine⟨h.1,?_⟩;rw[pN];refine cN a Δ ρ fp σ _ _ _ _ i.env h.2 (λu A T X h x1 ra=> ?_) λo0 o0 o0 o0 o0 w o0=>w.elim;obtain⟨⟨d,o⟩,e,e',Y⟩:=dB h.2;cases e';obtain⟨v,W,o0⟩:=i.env.at_ x d Jc e;show oV _ (ρ.get x);rw[W];have S:=i.ext x1;refine cN b Δ ρ fp T _ _ _ _ S.env Y (λZ g O I Y j k=> ?_) λo0 o0 o0 o0 o0 w o0=>w.elim;have R:=S.ext j;obtain⟨v',n,r⟩:=R.env.at_ x d Jc e;obtain rfl:=sj<|W.symm.trans n;obtain⟨B,a2,a3⟩:=qf i e ra h.1;obtain⟨M,b2,b3⟩:=qf S e k Y.1;have ow:owned (lent u++(d,Jc)::lent Z) (X++fp x::I)=fp x:=by
   rw[rk B.lens.2,a2];show fp x++owned (lent Z) I=fp x;rw[b2,QI]
  have ar:ArgsR O (lent u++(d,Jc)::lent Z) (A++v::g) (X++fp x::I):=by
   refine(B.ext j).app (.cons r (λo0=>(i.own x d e).1) (λp K o0=>b3 _ (Kx K).2) M) λp K w H U=> ?_;cases H with
   |head=>exact λc J hd=>a3 _ (Kx K).2 c hd J
   |tail _ H=>
    have C:∀ (l:List (D×Tag)),∀y∈lent l,y.2=Jd:=λl y hy=>by
     obtain⟨z,o0,rfl⟩:=Qi.mp hy;rfl
    rw[C _ _ (Kx K).1,C _ _ (Kx H).1] at U
    rcases U with U|U<;>exact ft U
  refine Y.2 O _ _ _ _ v ar (by
   have:A.length=u.length:=by have:=B.lens.1;rwa [Qd] at this
   rw[<-this,Wp (Qz _),Nat.sub_self];rfl) λd' V F hq o=> ?_
  rw[ow] at o;exact q.next _ _ _ _ hq<|R.back e W o
theorem xp{args:List E}:SDOK G cv cu (.expr (.call f args)):=λN P Δ ρ fp σ Q X Q' X' i p h q s=>by
 rcases (show dio G (aR cv) f Δ (λH=>Q .next H) (spl Δ args)\/dwe G (aR cv) (.call f args) Δ (λo0 o0=>Q .next Δ) (λc l=>X c l Δ) from h) with h|h
 ·exact Ao i h q
 ·exact aV _ Δ ρ fp σ _ _ _ _ i.env h (λd t v T F h r=>q.next _ _ _ _ h<|i.ext r.ext) λo0 o0 o0 o0 o0 w x=>s.ext i w x
theorem xj(e:E):SDOK G cv cu (.expr e):=by
 induction e using E.casesOn with
 |meth o m args=>exact w0
 |call f args=>exact xp
 |_=>exact vV λo0 o0 o0=>rfl
theorem wS{P:DSrc}{tg:Tg}{body:DRho->bT->Prop}{body':Rho->PH->SPost->Prop}{chk:PH->Prop}
  (R:∀Δ ρ σ fp K K',Inv N P [] Δ ρ σ fp->body Δ K->QR N P K K'->body' ρ σ K')(Z:∀σ,Ext N σ->chk σ)(q:QR N P Q Q')(L:∀a o,σ1 a=Ja o->o.fixed=Jc->N a=Ja o)(I:∀x∈tg.names,P.pin x=Jb):
  ∀ (xs:List D) (l:List PV) (Gx:List Jg) (Δ:DRho) (ρ:Rho) (σ:PH) (fp:String->List Jg),Inv N P [] Δ ρ σ fp->RdFs σ1 xs l Gx->(∀a∈Gx,N a=σ1 a/\P a)->fA tg body Q xs Δ->forGo chk tg body' Q' l ρ σ:=by
 intro xs
 induction xs with
 |nil=>
  intro l Gx Δ ρ σ fp i r C h;obtain⟨rfl,o0⟩:=r;exact⟨Z σ i.kept,q.next _ _ _ _ h i⟩
 |cons d s E=>
  intro l Gx Δ ρ σ fp i V C h;obtain⟨p,ps,j,U,g,F,v,M⟩:=V;subst g F;refine⟨Z σ i.kept,?_⟩;obtain⟨H,e,h⟩:=f9 h;have Y:∀a∈j,N a=σ1 a/\P a:=λa T=>C a (Ql _ T);have b:RdF σ d p j:=v.ag ⟨λa T=>by
    obtain⟨l,c⟩:=v.dom a T;rw[c];exact i.kept a _ ((Y a T).1.trans c),λa o k n=>i.kept a o (L a o k n)⟩
  have away:∀y e,Δ.get y=Ja (e,Jc)->Disj (fp y) j:=λy e w a T W=>by
   obtain⟨l,c⟩:=v.dom a W;have:=(i.own y e w).2 a T;rw[(Y a W).1,c] at this;exact sn this
  obtain⟨O,A,F,z⟩:=i.bindT b e (λR=>by rw[b.atom R];exact .nil) away (λa T=>(Y a T).2) I;rw[F];exact R H O σ A _ _ z h<|q.fl λJ t X f B u=>E ps U J t X f u M (λa T=>C a<|Qe _ T) B
theorem zv(B:SDOKs G cv cu b):SDOK G cv cu (.for_ tg k t b):=λN P Δ ρ fp σ Q X Q' X' i R h q O=>
 ⟨h.1,cN t Δ ρ fp σ _ _ _ _ i.env h.2 (λf vs T s h x r=>oj r h λM l z Gx h rx hl g C=>⟨hl,by
  have A:=(i.ext x).frz (tjs f)
  let U:PH:=open Classical in λa=>if a∈s.flatten\/¬ (∃l:MO,T a=Ja l.1) then T a else N a
  have D:∀a∈s.flatten,U a=T a:=λa H=>Y8<|.inl H;have I:∀a o,T a=Ja o->o.fixed=Jc->U a=Ja o:=λa o Z n=>(Y8 (.inr λV=>by obtain⟨l,e⟩:=V;obtain rfl:=sj<|Z.symm.trans e;exact ft<|l.2.symm.trans n)).trans Z;have u:Ext N T:=i.kept.trans x;have L:Ext N U:=λa o e=>by
   by_cases c:a∈s.flatten\/¬ (∃l:MO,T a=Ja l.1)
   ·exact(Y8 c).trans (u a o e)
   ·exact(Y7 c).trans e
  have J:Ext U T:=λa o e=>by
   by_cases c:a∈s.flatten\/¬ (∃l:MO,T a=Ja l.1)
   ·exact(Y8 c).symm.trans e
   ·exact u a o<|(Y7 c).symm.trans e
  have W:Inv U P [] (Δ.frz<|tjs f) ρ T fp:=by
   refine(Inv.mk A.env A.sep (λy d e=>⟨(A.own y d e).1,λa H=> ?_⟩) A.src J (λa H=>(bN H)) (λa H=>i.newS a<|L.new H) A.pin:Inv U P [] (Δ.frz<|tjs f) ρ T fp);have hn:=(A.own y d e).2 a H;have:¬ (a∈s.flatten\/¬ (∃l:MO,T a=Ja l.1)):=by
    rintro (c|c)
    ·exact i.away r.part e a H c
    ·exact c<|A.env.dom y a H
   exact(Y7 this).trans hn
  have Y:=wS (N:=U) (P:=P) (tg:=tg) (chk:=z) (Q:=Q) (Q':=Q') (σ1:=T) (body:=λΔ K=>dwss G (aR cv) (aR cu) b Δ K λo0 o0 o0=>False) (body':=λρ σ K=>wss G cv cu b ρ σ K λo0 o0 o0=>False)
   (λΔ ρ σ fp K K' i h q=>B U P Δ ρ fp σ K _ K' _ i (R.imp λx e=>(Qg.mp (show(!tg.names.contains x&&S.noass x b)=Jc from e)).2) h q λo0 o0 o0 o0 o0 o0 o0 o0 w o0 o0 o0=>w) (λp k=>C p λa H=>by
    obtain⟨l,j⟩:=r.rds.dom a H;rw[j];exact k a _ ((D a H).trans j))
   ⟨λΔ ρ σ fp w i=>q.next _ _ _ _ w<|i.less L A.newS,λd b Δ v ρ σ F w r=>q.ret _ _ _ _ _ _ _ w<|r.less L⟩ I (λy hy=>R.off (show(!tg.names.contains y&&S.noass y b)=Jd by simp[hy])) M l Gx (Δ.frz<|tjs f) ρ T fp W rx (λa H=>⟨D a<|g a H,?_⟩) h
  ·exact Y
  ·exact i.srcP r.part a (g a H)⟩) λo0 o0 o0 o0 o0 w x=>O.ext i w x⟩
theorem wT(R:SDOKs G cv cu b)(U:SDOKs G.un cu cu h):SDOK G cv cu (.try1 b c h):=λN P Δ ρ fp σ Q X Q' X' i p w q O=>
 ⟨w.1,R N P Δ ρ fp σ Q _ Q' _ i (λx v e=>by exact ns ((p.off rfl).symm.trans e)) w.2 q λe l ws u j T f F w A r m=>by
  show if G.sub e c then _ else False;by_cases s:G.sub e c=Jc
  ·rw[Y8 s] at w ⊢;exact U N P _ _ f _ _ _ _ _ A (λx v e=>by exact ns<|(p.off rfl).symm.trans e) w q λo0 o0 o0 o0 o0 o0 o0 o0 w o0 o0 o0=>w
  ·rw[Y7 s] at w;exact w.elim⟩
theorem wI{tst:DRho->(Bool->Prop)->Prop}{body:DRho->bT->Prop}{t:Rho->PH->(Bool->PH->Prop)->Prop}{body':Rho->PH->SPost->Prop}
  (W:∀Δ ρ σ fp (K:Bool->Prop) (K':Bool->PH->Prop),Inv N P [] Δ ρ σ fp->tst Δ K->(∀b σ',K b->Ext σ σ'->K' b σ')->t ρ σ K')
  (R:∀Δ ρ σ fp K K',Inv N P [] Δ ρ σ fp->body Δ K->QR N P K K'->body' ρ σ K')(q:QR N P Q Q'):∀ (k:Nat) (Δ:DRho) (ρ:Rho) (σ:PH) (fp:String->List Jg),Inv N P [] Δ ρ σ fp->dwhGo tst body Q k Δ->whGo t body' Q' k ρ σ
 |0=>λo0 o0 o0 o0 o0 h=>h.elim
 |k+1=>λΔ ρ σ fp i h=>W Δ ρ σ fp _ _ i h λb σ' w x=>by
  induction b with
  |false=>exact q.next _ _ _ _ w<|i.ext x
  |true=>exact R Δ ρ σ' fp _ _ (i.ext x) w<|q.fl λJ D O f p u=>wI W R q k J D O f u p
theorem vy(R:SDOKs G cv cu b):SDOK G cv cu (.while_ t b):=λN P Δ ρ fp σ Q X Q' X' i p h q s=>by
 obtain⟨Y,k,h⟩:=(show G.calm=Jc/\∃k,dwhGo (λΔ K=>dwe G (aR cv) t Δ (λv o0=>dBool K v) λc l=>X c l Δ) (λΔ K=>dwss G (aR cv) (aR cu) b Δ K X) Q k Δ from h)
 refine⟨Y,k,wI (λΔ ρ σ fp K W i h n=> ?_) (λΔ ρ σ fp K W i h q=>R N P Δ ρ fp σ K X W X' i (p.imp λx e=>e) h q s) q k Δ ρ σ fp i h⟩;exact aV t Δ ρ fp σ _ _ _ _ i.env h (λd g v T F h r=>by
  obtain⟨c,rfl,h⟩:=dM h;rw[r.rd.1];exact n _ _ h r.ext) λo0 o0 o0 o0 o0 w x=>s.ext i w x
end
mutual
theorem xW:∀ (s:S) (G:Gx) (cv cu:Cl),SDOK G cv cu s
 | .assign (.name _) _=>λo0 o0 o0=>yN
 | .assign (.tup _) _=>λo0 o0 o0=>z7
 | .setIdx _ _ _=>λo0 o0 o0=>y4
 | .expr e=>λo0 o0 o0=>xj e
 | .ret _=>λo0 o0 o0=>Af
 | .if_ _ b o=>λG cv cu=>Ah (eJ b G cv cu)<|eJ o G cv cu
 | .for_ _ _ _ b=>λG cv cu=>zv<|eJ b G cv cu
 | .while_ _ b=>λG cv cu=>vy<|eJ b G cv cu
 | .raise _ _=>λo0 o0 o0=>vg
 | .try1 b _ h=>λG cv cu=>wT (eJ b G cv cu)<|eJ h G.un cu cu
theorem eJ:∀ (s:List S) (G:Gx) (cv cu:Cl),SDOKs G cv cu s
 |[]=>λo0 o0 o0=>yh
 |s::r=>λG cv cu=>vt (xW s G cv cu)<|eJ r G cv cu
end
noncomputable def drho0(ps l:List String)(args:List (D×Bool)):DRho:=ps.zip (args.map Ja)++l.map λx=>(x,Jb)
noncomputable def fpz:List String->List (List Jg)->String->List Jg
 |x::s,F::i,y=>if y=x then F else fpz s i y
 |_,_,_=>[]
theorem nv(x:String):∀l:List String,DRho.get (l.map λx=>(x,Jb)) x=Jb
 |[]=>rfl
 |y::r=>by
  by_cases h:y=x
  ·simp[DRho.get_if,h]
  ·simp only[Qw,DRho.get_if,h,if_false];exact nv x r
structure Ent(σ:PH)(args:List (D×Bool))(Fs:List (List Jg))(Δ:DRho)(ρ:Rho)(fp:String->List Jg):Prop where
 env:EnvE σ Δ ρ fp
 at_:∀x d b,Δ.get x=Ja (d,b)->∃p∈args.zip Fs,p.1=(d,b)/\p.2=fp x
 any:∀x,∀a∈fp x,∃p∈args.zip Fs,a∈p.2
 sep:∀x d,Δ.get x=Ja (d,Jc)->∀y,y≠x->Disj (fp x) (fp y)
theorem ent(l:List String):∀ (ps:List String) (args:List (D×Bool)) (vs:List PV) (s:List (List Jg)),ps.length=args.length->ArgsR σ args vs s->Ent σ args s (drho0 ps l args) (ps.zip (vs.map Ja)++l.map λx=>(x,Jb)) (fpz ps s)
 |[]=>λargs vs s H S=>by
  cases S with
  |cons=>cases H
  |nil=>
   have g:∀x q,DRho.get (drho0 [] l []) x≠Ja q:=λx q e=>by
    rw[show DRho.get (drho0 [] l []) x=Jb from nv x l] at e;exact ns e
   refine⟨⟨λx d b e=>absurd e<|g x _,λx a T=>(bN T),?_⟩,λx d b e=>absurd e<|g x _,λx a T=>(bN T),λx d e=>absurd e<|g x _⟩;simp only[drho0,List.zip_nil_left,Ky,Qx];rfl
 |x::ps=>λargs vs s H S=>by
  cases S with
  |nil=>cases H
  |@cons d b v F E vs s r nd j h=>
   have e:=ent l ps E vs s (Nat.succ.inj H) h;have G:DRho.get (drho0 (x::ps) l ((d,b)::E)) x=Ja (d,b):=by simp[drho0,DRho.get_if]
   have g:∀y,y≠x->DRho.get (drho0 (x::ps) l ((d,b)::E)) y=DRho.get (drho0 ps l E) y:=λy W=>by
    show DRho.get ((x,Ja (d,b))::drho0 ps l E) y=_;rw[DRho.get_if,Y7 λq=>W q.symm]
   have K:fpz (x::ps) (F::s) x=F:=Y8 rfl;have f:∀y,y≠x->fpz (x::ps) (F::s) y=fpz ps s y:=λy W=>Y7 W;refine⟨⟨λy X k q=> ?_,λy a T=> ?_,?_⟩,λy X k q=> ?_,λy a T=> ?_,λy X q z A a T R=> ?_⟩
   ·by_cases W:y=x
    ·subst W;rw[G] at q;cases q;rw[K];exact⟨v,by simp[Rho.get_c],r⟩
    ·rw[g y W] at q;rw[f y W];obtain⟨w,N,Y⟩:=e.env.at_ y X k q;refine⟨w,?_,Y⟩;show(if x=y then Ja v else _)=_;rw[Y7 λq=>W q.symm];exact N
   ·by_cases W:y=x
    ·subst W;rw[K] at T;exact r.dom a T
    ·rw[f y W] at T;exact e.env.dom y a T
   ·have:=e.env.keys;simp only[drho0,Qw,WH,List.cons_append] at this ⊢;exact Ub _ this
   ·by_cases W:y=x
    ·subst W;rw[G] at q;cases q;exact⟨((d,b),F),.head _,rfl,K.symm⟩
    ·rw[g y W] at q;obtain⟨p,N,Y,J⟩:=e.at_ y X k q;exact⟨p,.tail _ N,Y,J.trans (f y W).symm⟩
   ·by_cases W:y=x
    ·subst W;rw[K] at T;exact⟨((d,b),F),.head _,T⟩
    ·rw[f y W] at T;obtain⟨p,N,Y⟩:=e.any y a T;exact⟨p,.tail _ N,Y⟩
   ·by_cases W:y=x
    ·subst W;rw[G] at q;cases q;rw[K] at T;rw[f z A] at R;obtain⟨p,N,Y⟩:=e.any z a R;exact j p N (.inl rfl) a T Y
    ·rw[g y W] at q;rw[f y W] at T;by_cases c:z=x
     ·subst c;rw[K] at R;obtain⟨p,N,Y,J⟩:=e.at_ y X Jc q;exact j p N (.inr<|by rw[Y]) a R<|by rw[J];exact T
     ·rw[f z c] at R;exact e.sep y X q z A a T R
theorem kZ:∀ (args:List (D×Bool)) (s:List (List Jg)) (a:Jg),(∃p∈args.zip s,p.1.2=Jc/\a∈p.2)->a∈owned args s
 |[],_=>λa r=>by obtain⟨p,h,o0⟩:=r;cases h
 |_::_,[]=>λa r=>by obtain⟨p,h,o0⟩:=r;cases h
 |(d,b)::f,F::s=>λa r=>by
  obtain⟨p,h,N,Y⟩:=r;cases h with
  |head=>cases N;exact Ql _ Y
  |tail _ h=>exact Qe _<|kZ f s a ⟨p,h,N,Y⟩
theorem ArgsR.nd{args:List (D×Bool)}(h:ArgsR σ args vs F):∀p∈args.zip F,p.1.2=Jc->p.2.Nodup:=by
 induction h with
 |nil=>intro p K;cases K
 |cons r nd d h i=>
  intro p K e;cases K with
  |head=>exact nd e
  |tail _ K=>exact i p K e
noncomputable def keep(σ:PH)(O:List Jg):PH:=λa=>if a∈O then Jb else σ a
theorem iU(h:keep σ O a=Jb):σ a=Jb\/a∈O:=by
 by_cases q:a∈O
 ·exact .inr q
 ·exact .inl<|(Y7 q).symm.trans h
theorem iW(x:Ext (keep σ O) σ'):ir O σ σ':=λa o e h=>x a o<|(Y7 h).trans e
theorem n7:∀ (args:List (D×Bool)) (s:List (List Jg)),∀a∈owned args s,a∈s.flatten:=λargs=>by
 induction args with
 |nil=>intro s a h;cases h
 |cons p r i=>
  intro s a h
  induction s using List.casesOn with
  |nil=>cases h
  |cons F s=>
   rcases Qt.mp (show a∈(if p.2 then F else [])++owned r s from h) with q|q
   ·induction K:p.2 with
    |true=>rw[K] at q;exact Ql _ q
    |false=>rw[K] at q;cases q
   ·exact Qe _<|i s a q
theorem inv0{ps:List String}(l:List String){args:List (D×Bool)}{vs:List PV}{F:List (List Jg)}(H:ps.length=args.length)(r:ArgsR σ args vs F)(i:String->Option PV)
  (K:∀x v,i x=Ja v->Rho.get (ps.zip (vs.map Ja)++l.map λx=>(x,Jb)) x=Ja v):
  Inv (keep σ<|owned args F) ⟨λa=>σ a=Jb\/a∈F.flatten,i⟩ [] (drho0 ps l args) (ps.zip (vs.map Ja)++l.map λx=>(x,Jb)) σ (fpz ps F):=by
 have e:=ent l ps args vs F H r;refine⟨e.env,e.sep,λx d q=> ?_,λx a T=> ?_,λa o h=> ?_,λa T=>(bN T),λa h=>(iU h).imp_right (n7 args F a),K⟩
 ·obtain⟨p,N,Y,J⟩:=e.at_ x d Jc q;rw[<-J];exact⟨r.nd p N<|by rw[Y],λa T=>Y8<|kZ _ _ a ⟨p,N,by rw[Y],T⟩⟩
 ·obtain⟨p,N,Y⟩:=e.any x a T;exact .inr<|List.mem_flatten.mpr ⟨p.2,(Kx N).2,Y⟩
 ·by_cases q:a∈owned args F
  ·rw[keep,Y8 q] at h;exact ns h
  ·rw[keep,Y7 q] at h;exact h
abbrev Runs(G:Gx)(J u c:Cl)(f:String)(ps l:List String)(b:List S):Prop:=
 ∀ (t:PH) (s:List PV) (Q:Post) (H:XPost),s.length=ps.length->wss G J u b (ps.zip (s.map Ja)++l.map λx=>(x,Jb)) t (λfl o0 X=>match fl with
   | .next=>Q .none X
   | .ret v=>Q v X) (λx o0 X=>H x X)->c f s t Q H
noncomputable def dend(Q:D->Bool->Prop):bT:=λfl o0=>match fl with
 | .next=>Q .none Jc
 | .ret d b=>Q d b
theorem yQ{ps s:List String}{args:List (D×Bool)}{Q:D->Bool->Prop}(M:ps.length=args.length)
  (w:dwss G (aR J) (aR u) b (drho0 ps s args) (dend Q) λc l o0=>X c l)(n:Runs G J u W f ps s b):aR W f args Q X:=λt I Y P O U k N=>by
 have i:=inv0 s M U (λo0=>Jb) λo0 o0 q=>(ns q)
 refine n t I P O (U.lens.1.trans M.symm)<|eJ b G J u _ _ _ _ _ t _ _ _ _ i (λx v q=>(ns q)) w ⟨λL A T p h j=> ?_,λd b L v A T F h r=> ?_⟩ λc z ws L A T p F h j r m=>N c z ws T F h ⟨r,iW j.kept,m.nd,λa H=>iU<|m.own a H⟩
 ·exact k _ _ _ _ [] h ⟨⟨rfl,rfl⟩,iW j.kept,λo0=>⟨.nil,λa h=>(bN h)⟩,λa h=>(bN h)⟩
 ·exact k _ _ _ _ F h ⟨r.rd,iW r.kept,λe=>⟨(r.own e).1,λa H=>iU<|(r.own e).2 a H⟩,r.src⟩
def dendI(x:String)(Q:D->Prop):bT:=λfl L=>match fl with
 | .next=>dOE (λp=>p.2=Jc/\Q p.1) (L.get x)
 | .ret _ _=>False
theorem sK:∀ (ps:List String) (vs:List PV) (i:Nat),ps.Nodup->ps[i]? =Ja x->vs[i]? =Ja v->Rho.get (ps.zip (vs.map Ja)++r) x=Ja v
 |p::ps,[],i,_,_,h=>by exact ns h
 |p::ps,w::vs,0,_,N,Y=>by obtain rfl:=sj N;obtain rfl:=sj Y;simp[Rho.get_c]
 |p::ps,w::vs,i+1,o,N,Y=>by
  have n:p≠x:=by
   rintro rfl;exact(QA.mp o).1 (QJ (show ps[i]? =Ja p from N))
  show(if p=x then Ja w else _)=_;rw[Y7 n];exact sK ps vs i (QA.mp o).2 N Y
theorem uQ{ps l:List String}{args:List (D×Bool)}{Q:D->Prop}(H:ps.length=args.length)(B:ps.Nodup)(hx:ps[i]? =Ja x)(T:S.noass x b=Jc)
  (w:dwss G (aR c) (aR j) b (drho0 ps l args) (dendI x Q) λo0 o0 o0=>False)(K:Runs G c j J f ps l b):(aR J).io f i args Q:=λt s I M O v U Y k=>by
 have Z:=inv0 l H U (λy=>if y=x then Ja v else Jb) λy u q=>by
  by_cases W:y=x
  ·obtain rfl:=sj<|(Y8 W).symm.trans q;subst W;exact sK ps s i B hx Y
  ·exact ns<|(Y7 W).symm.trans q
 refine K t s M O (U.lens.1.trans H.symm)<|eJ b G c j _ _ _ _ _ t _ _ _ _ Z (λy u q=> ?_) w ⟨λL A X E h n=> ?_,λd b L v A X F h r=>h.elim⟩ λo0 o0 o0 o0 o0 o0 o0 o0 h o0 o0 o0=>h.elim
 ·by_cases W:y=x
  ·subst W;exact T
  ·replace q:(if y=x then Ja v else Jb)=Ja u:=q;exact ns<|(Y7 W).symm.trans q
 ·obtain⟨⟨d,o⟩,e,g,z⟩:=dB (show dOE (λp=>p.2=Jc/\Q p.1) (L.get x) from h);cases g;obtain⟨u,R,r⟩:=n.env.at_ x d Jc e;have:=n.pin x v<|if_pos rfl;obtain rfl:=sj<|R.symm.trans this;exact k d X _ z ⟨r,(n.own x d e).1,λa T=>iU<|(n.own x d e).2 a T,iW n.kept⟩
section
variable{G:Gx}{cl cu:DCl}{Δ:DRho}{X:DX}
section
variable{Q:DQ}
theorem fM:dwe G cl (.none) Δ Q X=(Q .none Jb):=rfl
theorem cq(b):dwe G cl (.bool b) Δ Q X=(Q (.bool b) Jb):=rfl
theorem aN(i):dwe G cl (.int i) Δ Q X=(Q (.int i) Jb):=rfl
theorem wo(s):dwe G cl (.str s) Δ Q X=(Q (.str s) Jb):=rfl
theorem aD(x):dwe G cl (.loc x) Δ Q X=(dOE (λp=>Q p.1 (tg0 p.1 (Ja [x]))) (Δ.get x)):=rfl
theorem bX(x):dwe G cl (.glob x) Δ Q X=(dglob Q (G.glob x)):=rfl
theorem bl(op a b):dwe G cl (.bin op a b) Δ Q X=(dwe G cl a Δ (λA t=>dwe G cl b Δ (λv l=>dbin op A v t l Q) X) X):=rfl
theorem cA(a):dwe G cl (.not_ a) Δ Q X=(dwe G cl a Δ (λv o0=>dBool (λb=>Q (.bool !b) Jb) v) X):=rfl
theorem d8(a b):dwe G cl (.and_ a b) Δ Q X=(dwe G cl a Δ (λv o0=>dBool (λb'=>cond b' (dwe G cl b Δ Q X) (Q (.bool Jd) Jb)) v) X):=rfl
theorem dW(a b):dwe G cl (.or_ a b) Δ Q X=(dwe G cl a Δ (λv o0=>dBool (λb'=>cond b' (Q (.bool Jc) Jb) (dwe G cl b Δ Q X)) v) X):=rfl
theorem dm(a):dwe G cl (.isNone a) Δ Q X=(dwe G cl a Δ (λv o0=>hZ v=Jd/\Q (.bool v.isNone) Jb) X):=rfl
theorem et(a):dwe G cl (.notNone a) Δ Q X=(dwe G cl a Δ (λv o0=>hZ v=Jd/\Q (.bool !v.isNone) Jb) X):=rfl
theorem bo(op a b):dwe G cl (.cmp op a b) Δ Q X=(dwe G cl a Δ (λA o0=>dwe G cl b Δ (λv o0=>dcmp op A v λr=>Q (.bool r) Jb) X) X):=rfl
theorem mZ(a o1 b o2 c):dwe G cl (.cmp2 a o1 b o2 c) Δ Q X=(dwe G cl a Δ (λA o0=>dwe G cl b Δ (λv o0=>dcmp o1 A v λr=>cond r (dwe G cl c Δ (λj o0=>dcmp o2 v j λr=>Q (.bool r) Jb) X) (Q (.bool Jd) Jb)) X) X):=rfl
theorem bR(l):dwe G cl (.tup l) Δ Q X=(dwes G cl l Δ (λvs=>dtup (fsts vs) (tjs vs) Q) X):=rfl
theorem bv(l):dwe G cl (.list l) Δ Q X=(dwes G cl l Δ (λvs=>dnew (fsts vs) (tjs vs) Q) X):=rfl
theorem aP(a i):dwe G cl (.sub a i) Δ Q X=(dwe G cl a Δ (λA t=>dwe G cl i Δ (λC o0=>dOD (λv=>Q v (tg0 v t)) (dsub A C)) X) X):=rfl
theorem tE(a hi):dwe G cl (.upto a hi) Δ Q X=(dwe G cl a Δ (λv t=>dwe G cl hi Δ (λi o0=>dInt (λk=>jp (λl=>l.take (cut l.length k)) (λn=>0<=k/\k<n) t Q v) i) X) X):=rfl
theorem tt(a lo):dwe G cl (.from_ a lo) Δ Q X=(dwe G cl a Δ (λv t=>dwe G cl lo Δ (λi o0=>dInt (λk=>jp (λl=>l.drop (cut l.length k)) (λn=>1<=k/\k<=n) t Q v) i) X) X):=rfl
theorem aQ(f args):dwe G cl (.call f args) Δ Q X=(G.fn f=Jc/\dwes G cl args Δ (λvs=>cl f (flags vs) (λd b=>Q d (tg0 d (cond b Jb (tj (Ja []) (tjs vs))))) X) X):=rfl
theorem bj(b args):dwe G cl (.bi b args) Δ Q X=(G.calm=Jc/\dwes G cl args Δ (λvs=>dbi b vs Q) X):=rfl
theorem f8(a ts):dwe G cl (.isi a ts) Δ Q X=(stat ts=Jc/\dwe G cl a Δ (λv o0=>oB (λb=>Q (.bool b) Jb) (disi G v ts)) X):=rfl
theorem jr:dwe G cl (.dict0) Δ Q X=(G.full=Jc/\Q (.dict [] []) Jb):=rfl
theorem vW(a k):dwe G cl (.get a k) Δ Q X=(dwe G cl a Δ (λA t=>dDct (λks l=>dwe G cl k Δ (λv o0=>oK (λk=>dget t Q (dlook ks l k)) (keyD v)) X) A) X):=rfl
theorem gz(x f):dwe G cl (.attr x f) Δ Q X=(dOE (λp=>dOD (λd=>Q d (tg0 d (Ja [x]))) (dfld G f p.1)) (Δ.get x)):=rfl
theorem xQ(a):dwe G cl (.lr a) Δ Q X=(G.calm=Jc/\dwe G cl a Δ (λv o0=>dInt (λn=>(0<=n/\n<=1000)/\Q (.list ((Qc n.toNat).map λ(i:Nat)=> .int i)) Jb) v) X):=rfl
theorem du(f o args):dwe G cl (.mcall f o args) Δ Q X=(G.fn f=Jc/\dwe G cl o Δ (λr t=>dIns r/\dwes G cl args Δ (λvs=>cl f (flags ((r,t)::vs)) (λd b=>Q d (tg0 d (cond b Jb (tj (Ja []) (tjs ((r,t)::vs)))))) X) X) X):=rfl
end
section
variable{Q:List (D×Tag)->Prop}
theorem aE:dwes G cl [] Δ Q X=(Q []):=rfl
theorem aC(e es):dwes G cl (e::es) Δ Q X=(dwe G cl e Δ (λv t=>dwes G cl es Δ (λvs=>Q ((v,t)::vs)) X) X):=rfl
end
end
section
variable{G:Gx}{cl cu:DCl}{Δ:DRho}{Q:bT}{X:DSX}
end
section
variable{G:Gx}{cl cu:DCl}{Δ:DRho}{Q:bT}{X:DSX}{r:List S}
theorem aZ(h:dwe G cl e Δ (λd t=>dwss G cl cu r ((Δ.frz t).put x (d,t.isNone)) Q X) λc l=>X c l Δ):dwss G cl cu (.assign (.name x) e::r) Δ Q X:=h
theorem d3(C:G.calm=Jc)(h:dwe G cl e Δ (λd t=>dOR (λP=>dwss G cl cu r P Q X) (dU (.tup xs) d t.isNone (Δ.frz t))) λc l=>X c l Δ):dwss G cl cu (.assign (.tup xs) e::r) Δ Q X:=⟨C,h⟩
theorem dJ(h:dwe G cl t Δ (λv o0=>dBool (λc=>cond c (dwss G cl cu b Δ (donFl (λi=>dwss G cl cu r i Q X) Q) X) (dwss G cl cu o Δ (donFl (λi=>dwss G cl cu r i Q X) Q) X)) v) λc l=>X c l Δ):dwss G cl cu (.if_ t b o::r) Δ Q X:=h
theorem b0(h:dwe G cl e Δ (λd t=>Q (.ret d t.isNone) Δ) λc l=>X c l Δ):dwss G cl cu (.ret e::r) Δ Q X:= .inr h
theorem cK(h:dwm G cl e Δ λd P=>Q (.ret d Jc) P):dwss G cl cu (.ret e::r) Δ Q X:= .inl h
theorem yF(h:dexpr G cl e Δ (λP=>dwss G cl cu r P Q X) X):dwss G cl cu (.expr e::r) Δ Q X:=h
theorem pO(h:dwm G cl e Δ (λd u=>dpath G cl o u (λx ps n=>dwe G cl i u (λj o0=>dsetI n j d λdn'=>dput u x ps dn' λP=>dwss G cl cu r P Q X) λo0 o0=>False) λo0 o0=>False)):dwss G cl cu (.setIdx o i e::r) Δ Q X:=h
theorem iX(C:G.calm=Jc)(k:Nat)(h:dwhGo (λΔ K=>dwe G cl t Δ (λv o0=>dBool K v) λc l=>X c l Δ) (λΔ K=>dwss G cl cu b Δ K X) (donFl (λi=>dwss G cl cu r i Q X) Q) k Δ):dwss G cl cu (.while_ t b::r) Δ Q X:=⟨C,k,h⟩
theorem dK(C:G.calm=Jc)(h:dwes G cl t Δ (λvs=>dsrc k (fsts vs) λxs=>fA tg (λΔ K=>dwss G cl cu b Δ K λo0 o0 o0=>False) (donFl (λi=>dwss G cl cu r i Q X) Q) xs (Δ.frz (tjs vs))) λc l=>X c l Δ):
  dwss G cl cu (.for_ tg k t b::r) Δ Q X:=⟨C,h⟩
theorem ip{K:DRho->Prop}(h:K Δ):donFl K Q .next Δ:=h
end
theorem i8{L:Type}{el:DRho->DQ->Prop}{K:List D->Tag->Prop}(g f:L->D)(h:L->Prop)(U:∀a,h a->∀K:DQ,K (f a) Jb->dOR (λP=>el P K) (bp tg (g a) Δ)):
  ∀ (l:List L) (c:List D),(∀a∈l,h a)->K (c++l.map f) Jb->dcomp tg Δ t (λo0 K=>K Jc) el (l.map g) c Jb K
 |[]=>λc o0 k=>by rw[WD,QI] at k;exact k
 |a::l=>λc T k=>by
  obtain⟨P,e,w⟩:=f9 (U a (T a (.head _)) (λd u=>dcomp tg Δ t (λo0 K=>K Jc) el (l.map g) (c++[d]) (tj Jb (tout tg.names t u)) K)
   (i8 g f h U l (c++[f a]) (λb R=>T b (.tail _ R)) (by rw[Ks];exact k)))
  show dOR _ (bp tg (g a) Δ);rw[e];exact w
theorem eH{L:Type}{tst:DRho->(Bool->Prop)->Prop}{el:DRho->DQ->Prop}{K:List D->Tag->Prop}(g f:L->D)(p:L->Bool)(h:L->Prop)
  (u:∀a,h a->dOR (λP=>(∀T:Bool->Prop,T (p a)->tst P T)/\(p a=Jc->∀K:DQ,K (f a) Jb->el P K)) (bp tg (g a) Δ)):
  ∀ (l:List L) (c:List D),(∀a∈l,h a)->K (c++(l.filter p).map f) Jb->dcomp tg Δ t tst el (l.map g) c Jb K
 |[]=>λc o0 k=>by rw[WK,WD,QI] at k;exact k
 |a::l=>λc H k=>by
  obtain⟨P,e,w,j⟩:=f9<|u a (H a<|.head _);show dOR _ (bp tg (g a) Δ);rw[e];refine w _ ?_
  induction U:p a with
  |true=>
   rw[QX U] at k;exact j U _<|eH g f p h u l (c++[f a]) (λb R=>H b<|.tail _ R) (by rw[Ks];exact k)
  |false=>
   rw[QY (by rw[U];exact QF)] at k;exact eH g f p h u l c (λb R=>H b<|.tail _ R) k
theorem mK{L:Type}{body:DRho->bT->Prop}(g:L->D)(I:Nat->DRho->Prop)(R:Nat->D->Bool->Prop):∀ (l:List L) (i:Nat) (Δ:DRho),I i Δ->
  (∀ (j:Nat) (a:L) (Δ:DRho),l[j]? =Ja a->I (i+j) Δ->∀K:bT,(∀P,I (i+j+1) P->K .next P)->(∀d b P,R (i+j) d b->K (.ret d b) P)->dOR (λP=>body P K) (dU tg (g a) (g a).atom Δ))->
  (∀P,I (i+l.length) P->Q .next P)->(∀j d b P,j<l.length->R (i+j) d b->Q (.ret d b) P)->fA tg body Q (l.map g) Δ
 |[]=>λi Δ U o0 q o0=>q Δ U
 |a::l=>λi Δ U h q Z=>by
  obtain⟨P,e,w⟩:=f9 (h 0 a Δ rfl U (donFl (λJ=>fA tg body Q (l.map g) J) Q) (λJ Y=>mK g I R l (i+1) J Y (λj b Δ H p K k C=>by
    rw[QQ] at p;exact h (j+1) b Δ H p K (λP z=>k P (by rw[QQ i 1 j];exact z)) λd b P z=>C d b P (by rw[QQ i 1 j];exact z))
   (λP z=>q P (by rw[KW,<-Nat.add_assoc,<-QQ];exact z)) λj d b P H z=>Z (j+1) d b P (WR H) (by rw[<-Nat.add_assoc,<-QQ];exact z)) λd b P z=>Z 0 d b P (YC _) z)
  show dOR _ (dU tg (g a) (g a).atom Δ);rw[e];exact w
theorem dl{L:Type}{body:DRho->bT->Prop}(g:L->D)(I:Nat->DRho->Prop)(l:List L)(Δ:DRho)(i:I 0 Δ)
  (h:∀ (j:Nat) (a:L) (Δ:DRho),l[j]? =Ja a->I j Δ->∀K:bT,(∀P,I (j+1) P->K .next P)->dOR (λP=>body P K) (dU tg (g a) (g a).atom Δ))(q:∀P,I l.length P->Q .next P):fA tg body Q (l.map g) Δ:=
 mK g I (λo0 o0 o0=>False) l 0 Δ i (λj a Δ e p K k o0=>by rw[WP] at p k;exact h j a Δ e p K k) (λP z=>by rw[WP] at z;exact q P z) λo0 o0 o0 o0 o0 z=>z.elim
section
variable{Q:DQ}{K:Bool->Prop}{ta tb:Tag}
theorem cm(x y:Int):dbin .add (.int x) (.int y) ta tb Q=Q (.int (x+y)) Jb:=rfl
theorem cT(x y:Int):dbin .sub (.int x) (.int y) ta tb Q=Q (.int (x-y)) Jb:=rfl
theorem oO(x y:Int):dbin .mul (.int x) (.int y) ta tb Q=((x.natAbs<2^64\/y.natAbs<2^64)/\Q (.int (x*y)) Jb):=rfl
theorem jL(x y:Int):dbin .fdiv (.int x) (.int y) ta tb Q=(y≠0/\y.natAbs<1073741824/\Q (.int (x.fdiv y)) Jb):=rfl
theorem dq(x y:Int):dbin .mod (.int x) (.int y) ta tb Q=(y≠0/\Q (.int (x.fmod y)) Jb):=rfl
theorem fy(x y:List D):dbin .add (.list x) (.list y) ta tb Q=dnew (x++y) (tgl (x++y) (tj ta tb)) Q:=rfl
theorem nk(x y:Int):dcmp .lt (.int x) (.int y) K=K (decide (x<y)):=rfl
theorem nA(x y:Int):dcmp .le (.int x) (.int y) K=K (decide (x<=y)):=rfl
theorem j0(x y:Int):dcmp (.gt ()) (.int x) (.int y) K=K (decide (x>y)):=rfl
theorem mO(x y:Int):dcmp .ge (.int x) (.int y) K=K (decide (x>=y)):=rfl
theorem cj(x y:Int):D.eqv (.int x) (.int y)=decide (x=y):=rfl
theorem tv(x y:Bool):D.eqv (.bool x) (.bool y)=(x==y):=by rcases x with⟨⟩<;>rcases y with⟨⟩<;>rfl
theorem ko{n:Nat}{k:Int}(i:0<=k)(h:k<n):place n k=Ja k.toNat:=by unfold place;rw[Y8 i,Y8 h]
theorem fH(h:i<n):place n (i:Int)=Ja i:=by rw[ko (by exact QP _) (by exact Kj.mpr h)];rfl
end
theorem iE{a b:Int}(h:0<b):0<=a.fmod b/\a.fmod b<b:=⟨Int.fmod_nonneg_of_pos a h,Int.fmod_lt_of_pos a h⟩
theorem cB{p:Prop}[Decidable p]{a b:Prop}(N:p->a)(Y:¬p->b):cond (decide p) a b:=by
 by_cases h:p
 ·rw[Y4 h];exact N h
 ·rw[Y5 h];exact Y h
theorem br(p:String)(ps l:List String)(a:D×Bool)(as:List (D×Bool)):drho0 (p::ps) l (a::as)=Nb p a.2 a.1 (drho0 ps l as):=rfl
theorem ci(p:String)(l:List String):drho0 [] (p::l) []=No p Jb (drho0 [] l []):=rfl
theorem bD:drho0 [] [] []=[]:=rfl
theorem cr(x:String)(Δ:DRho):gx (.name x) Δ=No ".0" Jb (No x Jb Δ):=rfl
theorem Ai(x y:String)(Δ:DRho):gx (.tup [x,y]) Δ=No ".0" Jb (No x Jb (No y Jb Δ)):=rfl
theorem aH{L u:Type}(f:L->u)(a:L)(l:List L):(a::l).map f=f a::l.map f:=rfl
theorem aI{L u:Type}(f:L->u):([]:List L).map f=[]:=rfl
theorem aY{L:Type}(a:L)(l:List L):(a::l).length=l.length+1:=rfl
theorem aX{L:Type}:([]:List L).length=0:=rfl
theorem f0{L:Type}(a:L)(l m:List L):(a::l)++m=a::(l++m):=rfl
theorem bE{L:Type}(m:List L):[]++m=m:=rfl
theorem eh{L u:Type}(f:L->u):(Jb:Option L).map f=Jb:=rfl
theorem aT{L:Type}(a:L):(Ja a).isNone=Jd:=rfl
theorem aF{L:Type}:(Jb:Option L).isNone=Jc:=rfl
theorem aA{L:Sort u}(a b:L):cond Jc a b=a:=rfl
theorem aB{L:Sort u}(a b:L):cond Jd a b=b:=rfl
theorem fN:(!Jc)=Jd:=rfl
theorem mW:(!Jd)=Jc:=rfl
theorem eW(b:Bool):(Jc&&b)=b:=rfl
theorem bA(b:Bool):(Jd&&b)=Jd:=rfl
theorem iY(b:Bool):(Jc||b)=Jc:=rfl
theorem iC(b:Bool):(Jd||b)=b:=rfl
theorem uR{l:List Int}{i:Int}(U:0<=i)(h:i<l.length):dsub (.scr l) (.int i)=Ja (.int (l[i.toNat]?.getD 0)):=by
 show((place l.length i).bind λj=>l[j]?).map D.int=_;rw[ko U h];show(l[i.toNat]?).map D.int=_;rw[Qf (show i.toNat<l.length by exact(WF U).mpr h)];rfl
theorem kA{l:List Int}{i:Int}(U:0<=i)(h:i<l.length):dsub (.list (l.map .int)) (.int i)=Ja (.int (l[i.toNat]?.getD 0)):=by
 show((place (l.map D.int).length i).bind λj=>(l.map D.int)[j]?)=_;rw[Qd,ko U h];show(l.map D.int)[i.toNat]? =_;rw[Qu,Qf (show i.toNat<l.length by exact(WF U).mpr h)];rfl
theorem gr{l:List D}{j:Nat}{v:D}(h:l[j]? =Ja v):dsub (.list l) (.int j)=Ja v:=by
 have H:j<l.length:=by
  rcases Nat.lt_or_ge j l.length with q|q
  ·exact q
  ·exact ns<|(KK q).symm.trans h
 show((place l.length (j:Int)).bind λj=>l[j]?)=_;rw[fH H];exact h
section
variable{G:Gx}
theorem zK(i:Int):disi G (.int i) ["int"]=Ja Jc:=rfl
theorem zI(i:Int):disi G (.int i) ["bool"]=Ja Jd:=rfl
theorem zY(i:Bool):disi G (.bool i) ["bool"]=Ja Jc:=rfl
theorem rT(l:List D):disi G (.list l) ["list"]=Ja Jc:=rfl
theorem pM(l:List D):disi G (.tup l) ["tuple"]=Ja Jc:=rfl
theorem zM(i:Bool):disi G (.bool i) ["int"]=Ja Jc:=rfl
end
theorem jQ{p:Prop}[Decidable p]{a b:Prop}(N:p->b)(Y:¬p->a):cond (!decide p) a b:=by
 by_cases h:p
 ·rw[Y4 h];exact N h
 ·rw[Y5 h];exact Y h
theorem lN{a b:Prop}(h:c=Jc->a)(p:c=Jd->b):cond c a b:=by
 induction c with
 |true=>exact h rfl
 |false=>exact p rfl
theorem ki{a b:Prop}(h:c=Jc->b)(p:c=Jd->a):cond (!c) a b:=by
 induction c with
 |true=>exact h rfl
 |false=>exact p rfl
theorem pP{G:Gx}{args:List E}(h:G.full=Jc/\G.calm=Jc/\(G.mks.contains c=Jc\/(G.inis.contains c=Jc/\args.length=(G.flds c).length)))
  (w:dwes G cl args Δ (λvs=>tjs vs=Jb/\X c ((fsts vs).take (G.flds c).length) Δ) λc l=>X c l Δ):dwss G cl cu (.raise c args::r) Δ Q X:=⟨h,w⟩
section
variable{Q:DQ}{t ta tb:Tag}{Δ:DRho}
theorem aL(K:D×Bool->Prop)(v:D×Bool):dOE K (Ja v)=K v:=rfl
theorem ce(K:D->Prop)(v:D):dOD K (Ja v)=K v:=rfl
theorem bK(K:DRho->Prop)(v:DRho):dOR K (Ja v)=K v:=rfl
theorem cD(K:Nat->Prop)(v:Nat):oNat K (Ja v)=K v:=rfl
theorem zQ(K:List Int->Prop)(v:List Int):oIs K (Ja v)=K v:=rfl
theorem lU(K:Bool->Prop)(v:Bool):oB K (Ja v)=K v:=rfl
theorem o8(K:Int->Prop)(x:Int):dInt K (.int x)=K x:=rfl
theorem bM(K:Bool->Prop)(x:Bool):dBool K (.bool x)=K x:=rfl
theorem de(K:List D->Prop)(x:List D):dLst K (.list x)=K x:=rfl
theorem cU(K:List D->Prop)(x:List D):dSeq K (.list x)=K x:=rfl
theorem bV(K:D->Tag->Prop)(d:D)(t:Tag):d1 K [(d,t)]=K d t:=rfl
theorem bU(args:List (D×Tag)):dbi .len args Q=d1 (λd o0=>oNat (λn=>Q (.int n) Jb) (dlen d)) args:=rfl
theorem kL(args:List (D×Tag)):dbi .all args Q=d1 (λd o0=>dLst (λl=>oBs (λbs=>Q (.bool (bs.all id)) Jb) (hY l)) d) args:=rfl
theorem f5(args:List (D×Tag)):dbi .sum args Q=d1 (λd o0=>dLst (λl=>oIs (λis=>Q (.int is.sum) Jb) (dInts l)) d) args:=rfl
theorem jb(args:List (D×Tag)):dbi .int args Q=d1 (λd o0=>dBool (λx=>Q (.int (if x then 1 else 0)) Jb) d) args:=rfl
theorem iS(args:List (D×Tag)):dbi .list args Q=d1 (λd t=>dList Q t d) args:=rfl
theorem zn(l:List D):dList Q t (.list l)=Q (.list l) (tgl l t):=rfl
theorem y5(ks:List (List KA))(l:List D):dList Q t (.dict ks l)=((ks.length<=lim/\∀k∈ks,k.length<=lim)/\Q (.list (ks.map keyDd)) Jb):=rfl
theorem qF(args:List (D×Tag)):dbi .sorted args Q=d1 (λd o0=>dLst (λl=>oIs (λis=>is.length<64/\∀j:List Int,j.Perm is->j.Pairwise (· <= ·)->Q (.list (j.map .int)) Jb) (dInts l)) d) args:=rfl
theorem ya(a:D)(l:List D)(K:Bool->Prop):din a (.list l) K=((a.okd 40=Jc/\D.okds 40 l=Jc)/\K (l.any λd=>D.eqv d a)):=rfl
theorem rX(a:D)(ks:List (List KA))(l:List D)(K:Bool->Prop):din a (.dict ks l) K=oK (λk=>K (kidx ks k).isSome) (keyD a):=rfl
theorem uq(K:List (List KA)->List D->Prop)(ks:List (List KA))(l:List D):dDct K (.dict ks l)=K ks l:=rfl
theorem ny(K:List KA->Prop)(k:List KA):oK K (Ja k)=K k:=rfl
theorem cS(ks:List (List KA))(l:List D):tg0 (.dict ks l) t=t:=rfl
theorem dG(ks:List (List KA))(l:List D):D.atom (.dict ks l)=Jd:=rfl
theorem Al(d:D):dget t Q (Ja d)=Q d (tg0 d t):=rfl
theorem x7(l:List D)(i d:D)(K:D->Prop):dsetI (.list l) i d K=dInt (λk=>oNat (λj=>K (.list (l.set j d))) (place l.length k)) i:=rfl
theorem Ar(ks:List (List KA))(l:List D)(i d:D)(K:D->Prop):dsetI (.dict ks l) i d K=(l.length<lim/\oK (λk=>K (dkset ks l k d)) (keyD i)):=rfl
theorem Ak:dget t Q Jb=Q (.list []) Jb:=rfl
theorem qe(args:List (D×Tag)):dbi (.dict ()) args Q=d1 (λd o0=>dDct (λks l=>(ks≠ []/\(∀k∈ks,df k=Jc)/\D.atoms l=Jc)/\Q (.dict ks l) Jb) d) args:=rfl
theorem kR(l:List D):tg0 (.inst l) t=tgl l t:=rfl
theorem jF(l:List D):dIns (.inst l)=True:=rfl
theorem tm(args:List (D×Tag)):dbi .max args Q=d1 (λv o0=>dLst (λl=>oIs (λis=>is≠ []/\Q (.int (lmax is)) Jb) (dInts l)) v) args:=rfl
theorem vM(args:List (D×Tag)):dbi .min2 args Q=d2 (λa b=>dInt (λx=>dInt (λy=>Q (.int (min x y)) Jb) b) a) args:=rfl
theorem Ax(K:D->D->Prop)(a b:D)(t u:Tag):d2 K [(a,t),(b,u)]=K a b:=rfl
theorem ss(args:List (D×Tag)):dbi .sortp args Q=d1 (λv o0=>dLst (λl=>oPs (λps=>(chkP ps=Jc/\(srtP ps).length<=1000)/\Q (.list ((srtP ps).map prD)) Jb) (dPrs l)) v) args:=rfl
theorem im(args:List (D×Tag)):dbi .min args Q=dMin Q args:=rfl
theorem ia(a b:D)(K:Bool->Prop):dcmp .nin a b K=din a b λr=>K (!r):=rfl
theorem cg(l:List D):dlen (.list l)=Ja l.length:=rfl
theorem pt(l:List D):dlen (.tup l)=Ja l.length:=rfl
theorem wv(l:List Int):dlen (.scr l)=Ja l.length:=rfl
theorem dy(a b:D)(K:Bool->Prop):dcmp .eq a b K=deq a b K:=rfl
theorem ti(a b:D)(K:Bool->Prop):dcmp .ne a b K=deq a b λr=>K (!r):=rfl
theorem zk(a b:D)(K:Bool->Prop):dcmp .in_ a b K=din a b K:=rfl
theorem zb(i:Int):dglob Q (Ja (.int i))=Q (.int i) Jb:=rfl
theorem c7(v:D)(K:List D->Prop):dsrc .val [v] K=dSeq K v:=rfl
theorem eA(n:Int)(K:List D->Prop):dsrc .range [.int n] K=((-1000000<n/\n<=1000000)/\K ((Qc n.toNat).map λ(i:Nat)=> .int i)):=rfl
theorem bq:Δ.frz Jb=Δ:=rfl
theorem i4(y:String)(b:Bool)(v:D)(r:DRho)(xs:List String):DRho.frz (Nb y b v r) (Ja xs)=No y (cond (hasS xs y) (Ja (v,v.atom&&b)) (Ja (v,b))) (DRho.frz r (Ja xs)):=rfl
theorem jt(y:String)(o:Option (D×Bool))(r:DRho)(xs:List String):DRho.frz (No y o r) (Ja xs)=No y (cond (hasS xs y) (o.map λq=>(q.1,q.1.atom&&q.2)) o) (DRho.frz r (Ja xs)):=rfl
theorem iJ(y:String)(b:Bool)(v:D)(r:DRho):No y (Ja (v,b)) r=Nb y b v r:=rfl
theorem iP(xs:List String):DRho.frz [] (Ja xs)=[]:=rfl
theorem bB(i:Int):tg0 (.int i) t=Jb:=rfl
theorem oq(i:Bool):tg0 (.bool i) t=Jb:=rfl
theorem ie(s:List Int):tg0 (.scr s) t=Jb:=rfl
theorem bt(l:List D):tg0 (.list l) t=t:=rfl
theorem bI(l:List D):tg0 (.tup l) t=tgl l t:=rfl
theorem bk:tj Jb t=t:=rfl
theorem bH(xs:List String):tj (Ja xs) Jb=Ja xs:=rfl
theorem bZ(xs ys:List String):tj (Ja xs) (Ja ys)=Ja (xs++ys):=rfl
theorem aU:tjs []=Jb:=rfl
theorem aW(p:D×Tag)(r:List (D×Tag)):tjs (p::r)=tj p.2 (tjs r):=rfl
theorem jH(x y:String)(u v:D)(b:Bool):dU (.tup [x,y]) (.tup [u,v]) b Δ=Ja ((Δ.put x (u,b)).put y (v,b)):=rfl
theorem v9(x y z:String)(u v w:D)(b:Bool):dU (.tup [x,y,z]) (.tup [u,v,w]) b Δ=Ja (((Δ.put x (u,b)).put y (v,b)).put z (w,b)):=rfl
theorem n8(v:D):dMin Q [(v,t)]=dLst (λl=>oIs (λis=>is≠ []/\Q (.int (lmin is)) Jb) (dInts l)) v:=rfl
theorem b5(x:String)(v:D)(b:Bool):dU (.name x) v b Δ=Ja (Δ.put x (v,b)):=rfl
theorem iO(x:String):hasS [] x=Jd:=rfl
theorem iG(y:String)(r:List String)(x:String):hasS (y::r) x=(y==x||hasS r x):=rfl
theorem bC(l:List D):D.atom (.list l)=Jd:=rfl
theorem eY(i:Int):D.atom (.int i)=Jc:=rfl
theorem zo(i:Bool):D.atom (.bool i)=Jc:=rfl
theorem yU(i:List Int):D.atom (.scr i)=Jc:=rfl
theorem gG(l:List D):D.atom (.tup l)=D.atoms l:=rfl
theorem bz:D.atoms []=Jc:=rfl
theorem bw(d:D)(l:List D):D.atoms (d::l)=(d.atom&&D.atoms l):=rfl
theorem get_c(y:String)(v:Option (D×Bool))(r:DRho)(x:String):DRho.get ((y,v)::r) x=cond (y==x) v (DRho.get r x):=rfl
theorem put_c(y:String)(o:Option (D×Bool))(r:DRho)(x:String)(v:D×Bool):DRho.put ((y,o)::r) x v=cond (y==x) ((y,Ja v)::r) ((y,o)::DRho.put r x v):=rfl
theorem aG(y:String)(b:Bool)(v:D)(r:DRho)(x:String):DRho.get (Nb y b v r) x=cond (y==x) (Ja (v,b)) (DRho.get r x):=rfl
theorem aJ(y:String)(o:Option (D×Bool))(r:DRho)(x:String):DRho.get (No y o r) x=cond (y==x) o (DRho.get r x):=rfl
theorem aK(y:String)(b:Bool)(v:D)(r:DRho)(x:String)(p:D×Bool):DRho.put (Nb y b v r) x p=cond (y==x) (Nb y p.2 p.1 r) (Nb y b v (DRho.put r x p)):=rfl
theorem aM(y:String)(o:Option (D×Bool))(r:DRho)(x:String)(p:D×Bool):DRho.put (No y o r) x p=cond (y==x) (Nb y p.2 p.1 r) (No y o (DRho.put r x p)):=rfl
end
def elD(G:Gx)(cl:DCl)(e:E):DRho->DQ->Prop:=λP K=>dwe G cl e P K λo0 o0=>False
def tstD(G:Gx)(cl:DCl)(e:E):DRho->(Bool->Prop)->Prop:=λP K=>dwe G cl e P (λv o0=>dBool K v) λo0 o0=>False
section
variable{G:Gx}{cl cu:DCl}{Δ:DRho}{Q:DQ}{X:DX}
theorem bY(c:G.calm=Jc)(h:dwes G cl i Δ (λvs=>dsrc k (fsts vs) λxs=>dcomp tg Δ (tjs vs) (λo0 K=>K Jc) (elD G cl e) xs [] Jb λa t=>Q (.list a) t) X):dwe G cl (.comp e tg k i) Δ Q X:=⟨c,h⟩
theorem cG(C:G.calm=Jc)(h:dwes G cl i Δ (λvs=>dsrc k (fsts vs) λxs=>dcomp tg Δ (tjs vs) (tstD G cl c) (elD G cl e) xs [] Jb λa t=>Q (.list a) t) X):dwe G cl (.compIf e tg k i c) Δ Q X:=⟨C,h⟩
variable{QM:D->DRho->Prop}
theorem nu(o a b):dwm G cl (.bin o a b) Δ QM=dwe G cl (.bin o a b) Δ (λd t=>t=Jb/\QM d Δ) λo0 o0=>False:=rfl
theorem xw(l):dwm G cl (.list l) Δ QM=dwe G cl (.list l) Δ (λd t=>t=Jb/\QM d Δ) λo0 o0=>False:=rfl
theorem An(b l):dwm G cl (.bi b l) Δ QM=dwe G cl (.bi b l) Δ (λd t=>t=Jb/\QM d Δ) λo0 o0=>False:=rfl
theorem oY(a b c d):dwm G cl (.comp a b c d) Δ QM=dwe G cl (.comp a b c d) Δ (λd t=>t=Jb/\QM d Δ) λo0 o0=>False:=rfl
theorem dS(l):dwm G cl (.tup l) Δ QM=dwms G cl l Δ (λds P=>ds.length<=lim/\QM (.tup ds) P):=rfl
theorem b8(x):dwm G cl (.loc x) Δ QM=dOE (λp=>cond p.1.atom (QM p.1 Δ) (p.2=Jc/\QM p.1 (Δ.put x (.hole,Jc)))) (Δ.get x):=rfl
theorem sU(h:dwe G cl (.call f l) Δ (λd t=>t=Jb/\QM d Δ) λo0 o0=>False):dwm G cl (.call f l) Δ QM:=h
theorem dZ{Q:List D->DRho->Prop}:dwms G cl [] Δ Q=Q [] Δ:=rfl
theorem c9{Q:List D->DRho->Prop}(e es):dwms G cl (e::es) Δ Q=dwm G cl e Δ (λd i=>dwms G cl es i (λds J=>Q (d::ds) J)):=rfl
theorem hM{Q:bT}{X:DSX}{r:List S}{x:String}{e:E}(h:dOE (λp=>dLst (λo0=>True) p.1) (Δ.get x)/\dwm G cl e Δ (λd i=>dOE (λp=>p.2=Jc/\dLst (λl=>l.length<lim/\dwss G cl cu r (i.put x (.list (l++[d]),Jc)) Q X) p.1) (i.get x))):
  dwss G cl cu (.expr (.meth (.loc x) .append [e])::r) Δ Q X:=h
end
theorem eP(n:Nat):((n:Int)).toNat=n:=rfl
theorem dp{body:DRho->bT->Prop}(I:Nat->DRho->Prop)(U:I 0 Δ)(h:∀ (j:Nat) (Δ:DRho),j<n->I j Δ->∀K:bT,(∀P,I (j+1) P->K .next P)->dOR (λP=>body P K) (dU tg (.int j) Jc Δ))
  (q:∀P,I n P->Q .next P):fA tg body Q ((Qc n).map λ(i:Nat)=> .int i) Δ:=
 dl (λ(i:Nat)=> .int i) I _ _ U (λj a Δ e H K k=>by
  obtain⟨N,p⟩:=QK.mp e;rw[Qr] at N;rw[Wa] at p;subst p;exact h j Δ N H K k) (by rw[Qr];exact q)
theorem bP{el:DRho->DQ->Prop}{K:List D->Tag->Prop}(f:Nat->D)(h:∀i,i<n->∀K:DQ,K (f i) Jb->dOR (λP=>el P K) (bp tg (.int i) Δ))(k:K ((Qc n).map f) Jb):
  dcomp tg Δ s (λo0 K=>K Jc) el ((Qc n).map λ(i:Nat)=> .int i) [] Jb K:=
 i8 (λ(i:Nat)=> .int i) f (· <n) h _ [] (λa T=>Qh.mp T) k
theorem bS{L:Type}{l:List L}{el:DRho->DQ->Prop}{K:List D->Tag->Prop}(g f:L->D)(h:∀a,a∈l->∀K:DQ,K (f a) Jb->dOR (λP=>el P K) (bp tg (g a) Δ))(k:K (l.map f) Jb):
  dcomp tg Δ s (λo0 K=>K Jc) el (l.map g) [] Jb K:=i8 g f (· ∈l) h l [] (λa T=>T) k
theorem iy{L u:Type}(f:L->u)(l:List L)(a:L):l.map f++[f a]=(l++[a]).map f:=by rw[QC];rfl
theorem d4{L:Type}(f:Nat->L)(n:Nat):(Qc n).map f++[f n]=(Qc (n+1)).map f:=by rw[List.range_succ,QC];rfl
theorem cz(a b c:D):dsub (.tup [a,b,c]) (.int 0)=Ja a:=rfl
theorem jo(a b c:D):dsub (.tup [a,b,c]) (.int 1)=Ja b:=rfl
theorem jl(a b c:D):dsub (.tup [a,b,c]) (.int 2)=Ja c:=rfl
theorem ey(a b:D):dsub (.tup [a,b]) (.int 0)=Ja a:=rfl
theorem gM(a b:D):dsub (.tup [a,b]) (.int 1)=Ja b:=rfl
theorem aS{K:D->Prop}(e:t=Ja v)(k:K v):dOD K t:=by subst e;exact k
theorem eD{K:List Int->Prop}(e:t=Ja v)(k:K v):oIs K t:=by subst e;exact k
theorem mB{K:List Bool->Prop}(e:t=Ja v)(k:K v):oBs K t:=by subst e;exact k
noncomputable def dP(p:Nat×Nat):D:= .tup [.int p.1,.int p.2]
noncomputable abbrev dI(l:List Int):D:= .list (l.map .int)
abbrev dT(t:List (List Int)):D:= .list (t.map dI)
noncomputable def dO:Option Int->D
 |some i=> .int i
 |none=> .none
abbrev dR(r:List (Option Int)):D:= .list (r.map dO)
abbrev dC(c:List (List (Option Int))):D:= .list (c.map dR)
theorem pS(l:List Int)(i:Int):dI (l++[i])= .list (l.map .int++[.int i]):=by
 show D.list (KQ _<|_++_)=_;rw[QC];rfl
theorem cp(l:List Int):dInts (l.map .int)=Ja l:=by
 induction l with
 |nil=>rfl
 |cons a l i=>show(dInts<|l.map .int).map (a:: ·)=_;rw[i];rfl
theorem fO{L:Type}(g:L->Int)(l:List L):dInts (l.map λa=> .int (g a))=Ja (l.map g):=by
 rw[show(l.map λa=>D.int<|g a)=(l.map g).map .int from(Qx).symm];exact cp _
theorem eX{L:Type}(g:L->Bool)(l:List L):hY (l.map λa=> .bool (g a))=Ja (l.map g):=by
 induction l with
 |nil=>rfl
 |cons a l i=>show(hY (l.map λa=> .bool (g a))).map (g a:: ·)=_;rw[i];rfl
theorem ly{L:Type}(g:L->Bool)(l:List L):(l.map g).all id=l.all g:=by rw[List.all_map];rfl
theorem cH{L:Type}(f:L->D)(h:∀a,(f a).atom=Jc)(l:List L):D.atoms (l.map f)=Jc:=by
 induction l with
 |nil=>rfl
 |cons a l i=>show((f a).atom&&D.atoms (l.map f))=Jc;rw[h a,i];rfl
theorem yx(m:Nat):D.okds m []=Jc:=rfl
theorem eT{L:Type}(f:L->D)(h:∀a,(f a).okd m=Jc)(l:List L):D.okds m (l.map f)=Jc:=by
 induction l with
 |nil=>exact yx m
 |cons a l i=>show(D.okd m (f a)&&D.okds m (l.map f))=Jc;rw[h a,i];rfl
theorem fb(p:Nat×Nat):(dP p).atom=Jc:=rfl
theorem v6(p:Option Int):(dO p).atom=Jc:=by rcases p with⟨⟩<;>rfl
theorem iR(i:Int):(D.int i).atom=Jc:=rfl
structure Rect{α:Type}(t:List (List α))(h w:Nat):Prop where
 len:t.length=h
 row:∀r∈t,r.length=w
 h1:1<=h
 h8:h<=8
 w1:1<=w
 w8:w<=8
noncomputable def rowAt{L:Type}(t:List (List L))(i:Nat):List L:=t[i]?.getD []
def cell(t:List (List Int))(r c:Nat):Int:=(rowAt t r)[c]?.getD 0
theorem Rect.at_{L:Type}{t:List (List L)}(R:Rect t h w)(hi:i<h):t[i]? =Ja (rowAt t i)/\(rowAt t i).length=w:=by
 have:i<t.length:=by rw[R.len];exact hi
 rw[rowAt,Qf this];exact⟨rfl,R.row _<|KN this⟩
theorem g6{t:List (List Int)}{h w:Nat}(R:Rect t h w){i:Nat}(hi:i<h):dsub (dT t) (.int i)=Ja (dI (rowAt t i)):=gr<|by rw[Qu,(R.at_ hi).1];rfl
theorem nP(R:Rect t h w):dsub (dT t) (.int 0)=Ja (dI (rowAt t 0)):=g6 R (i:=0) R.h1
theorem Rect.len0{t:List (List Int)}{h w:Nat}(R:Rect t h w):((rowAt t 0).map D.int).length=w:=by rw[Qd];exact(R.at_ R.h1).2
theorem Rect.lenD{t:List (List Int)}(R:Rect t h w):(t.map dI).length=h:=by rw[Qd];exact R.len
theorem iI{t:List (List Int)}{h w:Nat}(R:Rect t h w){i c:Nat}(hi:i<h)(C:c<w):dsub (dI (rowAt t i)) (.int c)=Ja (.int (cell t i c)):=by
 rw[kA (by exact QP _) (by rw[(R.at_ hi).2];exact Kj.mpr C)];rfl
theorem dD{r:List Int}(h:c<r.length):dsub (dI r) (.int c)=Ja (.int (r[c]?.getD 0)):=by
 rw[kA (by exact QP _) (by exact Kj.mpr h)];rfl
theorem dX(h:k<=1000):k<=lim:=Qq h<|by decide
theorem cZ(h:k<1000):k<lim:=QO h<|by decide
noncomputable def allF:Nat->Nat->List (Nat×Nat)
 |0,_=>[]
 |h+1,w=>allF h w++(Qc w).map λc=>(h,c)
theorem lL(h w:Nat):allF (h+1) w=allF h w++(Qc w).map λc=>(h,c):=rfl
theorem gI(h w:Nat):(allF h w).length=h*w:=by
 induction h with
 |zero=>rw[Nat.zero_mul];rfl
 |succ h i=>rw[lL,QD,i,Qd,Qr,Nat.succ_mul]
theorem allF_mem{p:Nat×Nat}:p∈allF h w↔p.1<h/\p.2<w:=by
 induction h with
 |zero=>exact⟨λx=>(bN x),λx=>absurd x.1 (Kw _)⟩
 |succ h i=>
  rw[lL,Qt,i,Qi]
  constructor
  ·rintro (⟨a,b⟩|⟨c,C,rfl⟩)
   ·exact⟨by exact Wh a,b⟩
   ·exact⟨QG _,Qh.mp C⟩
  ·rintro ⟨a,b⟩;by_cases q:p.1<h
   ·exact .inl ⟨q,b⟩
   ·exact .inr ⟨p.2,Qh.mpr b,by rw[<-show p.1=h by exact Nat.le_antisymm (zs a) (QT.mp q)]⟩
theorem tc(h w:Nat):(allF h w).map dP++((Qc w).map λ(c:Nat)=> .tup [.int h,.int c])=(allF (h+1) w).map dP:=by
 rw[lL,QC,Qx];rfl
noncomputable def rsF(t:List (List Int)):List Int:=t.map Ww
noncomputable def csF(t:List (List Int))(w:Nat):List Int:=(Qc w).map λc=>(t.map λr=>r[c]?.getD 0).sum
theorem fx{tst:DRho->(Bool->Prop)->Prop}{el:DRho->DQ->Prop}{K:List D->Tag->Prop}(f:Nat->D)(p:Nat->Bool)
  (h:∀i,i<n->dOR (λP=>(∀T:Bool->Prop,T (p i)->tst P T)/\(p i=Jc->∀K:DQ,K (f i) Jb->el P K)) (bp tg (.int i) L))(k:K (((Qc n).filter p).map f) Jb):
  dcomp tg L t tst el ((Qc n).map λ(i:Nat)=> .int i) [] Jb K:=eH (λ(i:Nat)=> .int i) f p (· <n) h _ [] (λa H=>Qh.mp H) k
theorem cY{L:Type}{l:List L}{tst:DRho->(Bool->Prop)->Prop}{el:DRho->DQ->Prop}{K:List D->Tag->Prop}(g f:L->D)(p:L->Bool)
  (h:∀a,a∈l->dOR (λP=>(∀T:Bool->Prop,T (p a)->tst P T)/\(p a=Jc->∀K:DQ,K (f a) Jb->el P K)) (bp tg (g a) j))(k:K ((l.filter p).map f) Jb):
  dcomp tg j t tst el (l.map g) [] Jb K:=eH g f p (· ∈l) h _ [] (λa H=>H) k
noncomputable abbrev dL(l:List (List D)):D:= .list (l.map .list)
theorem zE(t:List (List (Option Int))):dC t=dL (t.map λr=>r.map dO):=by
 show D.list _=D.list (KQ _<|KQ _ _);rw[Qx];rfl
def gridF(l:List (List D)):Bool:=decide (1<=l.length/\l.length<=8)&&(decide (1<=(rowAt l 0).length/\(rowAt l 0).length<=8)&&l.all λr=>decide (r.length=(rowAt l 0).length))
theorem Rect.grid{L:Type}{t:List (List L)}{h w:Nat}(R:Rect t h w)(f:L->D):gridF (t.map λr=>r.map f)=Jc:=by
 have b:rowAt (t.map λr=>r.map f) 0=(rowAt t 0).map f:=by
  rw[rowAt,Qu,(R.at_ R.h1).1];rfl
 have e:(rowAt (t.map λr=>r.map f) 0).length=w:=by rw[b,Qd];exact(R.at_ R.h1).2
 rw[gridF,e,Qd,R.len,Y4 ⟨R.h1,R.h8⟩,Y4 ⟨R.w1,R.w8⟩,Yt,Yt,Qy];intro r n;obtain⟨y,H,rfl⟩:=Qi.mp n;rw[Qd,R.row y H];exact Y4 rfl
def hidF(ps:List (Nat×Nat))(r c:Nat):Bool:=(ps.map dP).any λd=>D.eqv d<|dP (r,c)
def cellO(t:List (List Int))(hid:Nat->Nat->Bool)(r c:Nat):Option Int:=cond (hid r c) Jb<|Ja (cell t r c)
def cellsF(t:List (List Int))(hid:Nat->Nat->Bool)(h w:Nat):List (List (Option Int)):=(Qc h).map λr=>(Qc w).map λc=>cellO t hid r c
theorem oL(t:List (List Int))(hid:Nat->Nat->Bool)(w j:Nat):dC (cellsF t hid (j+1) w)= .list ((cellsF t hid j w).map dR++[.list ((Qc w).map λ(c:Nat)=>dO (cellO t hid j c))]):=by
 rw[show cellsF t hid (j+1) w=cellsF t hid j w++[(Qc w).map λc=>cellO t hid j c] from(d4 _ _).symm];show D.list (KQ dR<|_++_)=_;rw[QC];show D.list (_++[D.list (KQ _<|KQ _ _)])=_;rw[Qx];rfl
abbrev viewF(t:List (List Int))(hid:Nat->Nat->Bool)(h w:Nat):D:= .tup [dC (cellsF t hid h w),dI<|rsF t,dI (csF t w)]
theorem kW{L:Type}(g:L->Option Int)(l:List L):dInts ((l.filter λa=>(g a).isSome).map λa=>dO (g a))=Ja (l.filterMap g):=by
 induction l with
 |nil=>rfl
 |cons a l W=>
  induction h:g a with
  |none=>rw[QY (by rw[h];exact QF),W,List.filterMap_cons_none h]
  |some i=>
   rw[QX (by rw[h];rfl),Qw,List.filterMap_cons_some h,h];show(dInts _).map (i:: ·)=_;rw[W];rfl
theorem hA{r:List (Option Int)}(h:c<r.length):dsub (dR r) (.int c)=Ja (dO (r[c]?.getD Jb)):=gr<|by rw[Qu,Qf h];rfl
theorem ew{t:List (List (Option Int))}{h w:Nat}(R:Rect t h w){i:Nat}(hi:i<h):dsub (dC t) (.int i)=Ja (dR (rowAt t i)):=gr<|by rw[Qu,(R.at_ hi).1];rfl
theorem fR(R:Rect t h w):dsub (dC t) (.int 0)=Ja (dR (rowAt t 0)):=ew R (i:=0) R.h1
def r1F(c:List (List (Option Int)))(r:List Int)(k:Nat):Int:=r[k]?.getD 0-((rowAt c k).filterMap id).sum
noncomputable def r2F(c:List (List (Option Int)))(s:List Int)(k:Nat):Int:=s[k]?.getD 0-(c.filterMap λr=>r[k]?.getD Jb).sum
theorem cJ(o:Option Int):hZ (dO o)=Jd/\(dO o).isNone= !o.isSome:=by rcases o with⟨⟩<;>exact⟨rfl,rfl⟩
theorem qI{p:Prop}[Decidable p]{a b:Prop}(Y:¬p->a)(h:p->b):cond (!decide p) a b:=jQ h Y
theorem f7{args:List E}(h:dwe G M (.call f args) L (λo0 o0=>dwss G M u r L Q X) λc l=>X c l L):dwss G M u (.expr (.call f args)::r) L Q X:= .inr h
theorem jX{args:List E}(h:dio G c f L (λP=>dwss G c u r P Q X) (spl L args)):dwss G c u (.expr (.call f args)::r) L Q X:= .inl h
def D.eqvs(a b:List D):Bool:=PyData.eqvAll (D.pys a)<|D.pys b
theorem vj(a b:List D):D.eqv (.tup a) (.tup b)=D.eqvs a b:=rfl
theorem jn(x y:D)(a b:List D):D.eqvs (x::a) (y::b)=(D.eqv x y&&D.eqvs a b):=rfl
theorem tn:D.eqvs [] []=Jc:=rfl
theorem zJ(a b c d:D):D.eqv (.tup [a,b]) (.tup [c,d])=(D.eqv a c&&D.eqv b d):=by rw[vj,jn,jn,tn,Bool.and_true]
mutual
theorem fK:∀d:D,D.eqv d d=Jc
 | .none=>rfl
 | .bool b=>by rw[tv];exact beq_self_eq_true b
 | .int i=>by rw[cj];exact Y4 rfl
 | .str s=>by show(Qb s==Qb s)=Jc;exact beq_self_eq_true _
 | .tup l=>jz l
 | .list l=>jz l
 | .scr _=>rfl
 | .hole=>rfl
 | .inst _=>rfl
 | .dict _ _=>rfl
theorem jz:∀l:List D,D.eqvs l l=Jc
 |[]=>rfl
 |d::l=>by rw[jn,fK d,jz l];rfl
end
theorem qc(m:Nat)(i:Int):D.okd m (.int i)=Jc:=by rcases m with⟨⟩<;>rfl
theorem gv(m:Nat)(l:List D):D.okd (m+1) (.list l)=D.okds m l:=rfl
theorem zw(m:Nat)(l:List Int):D.okd (m+1) (dI l)=Jc:=by rw[gv];exact eT _ (qc m) l
theorem zc(m:Nat)(l:List (List Int)):D.okd (m+2) (dT l)=Jc:=by rw[gv];exact eT _ (zw m) l
theorem rO(R:Rect t h w):(∀r∈t,∀i∈r,0<=i)↔∀a b,a<h->b<w->0<=cell t a b:=by
 constructor
 ·intro N a b T v;have E:=(R.at_ T)
  have m:=QJ E.1;refine N _ m _ ?_;rw[cell,Qf (by rw[E.2];exact v)];exact KN _
 ·intro N r n i V;obtain⟨a,T,rfl⟩:=KT n;obtain⟨b,v,rfl⟩:=KT V;have:=N a b (by rw[<-R.len];exact T) (by rw[<-R.row _ n];exact v);rw[cell,rowAt,Qf T] at this;rw[show(Ja t[a]).getD []=t[a] from rfl,Qf v] at this;exact this
section
variable{G:Gx}{cl cu:DCl}{Δ:DRho}{X:DX}{Qp:String->List D->D->Prop}
theorem lJ(x):dpath G cl (.loc x) Δ Qp X=dOE (λp=>p.2=Jc/\Qp x [] p.1) (Δ.get x):=rfl
theorem xM(a i):dpath G cl (.sub a i) Δ Qp X=dpath G cl a Δ (λx ps n=>dwe G cl i Δ (λj o0=>isScr n=Jd/\dOD (λd=>Qp x (ps++[j]) d) (dsub n j)) X) X:=rfl
end
theorem xC{a:Int}{b:Nat}(h:1<=b):∃i:Nat,a.fmod b=i/\i<b:=by
 obtain⟨N,p⟩:=iE (a:=a) (b:=b) (by exact Kj.mpr h);exact⟨(a.fmod b).toNat,by exact(Wz N).symm,by exact(WF N).mpr p⟩
structure EnvD(tab:List Fn)(C:Cx)(G:Gx)(mg mb:Jq->Option Jf):Prop where
 g:GOK C G mg mb
 x:ExcOK C G mg mb
 ok:C.ok
 F:∀t∈tab,X4 λa o fd body=>FnAt C t.f t.ps t.b a o fd body
theorem FnAt.un{C:Cx}{ps:List String}{d:Jr}(F:FnAt C f ps s a o d body):FnAt C.un f ps s a o d body:=
 ⟨⟨F.ho,F.hd,F.cd,F.hb,F.clo,F.glb,F.blt,F.bind,F.par,F.nd,F.co,F.gen,F.kind,F.free⟩,F.fv,F.kp,F.mat⟩
theorem EnvD.un{tab:List Fn}{C:Cx}{G:Gx}{mg mb:Jq->Option Jf}(e:EnvD tab C G mg mb):EnvD tab C.un G.un mg mb:=⟨e.g.un,e.x.un,e.ok,λt h=>by obtain⟨a,o,f,b,F⟩:=e.F t h;exact⟨a,o,f,b,F.un⟩⟩
section
variable{tab:List Fn}{C:Cx}{G:Gx}{mg mb:Jq->Option Jf}{n:Nat}
theorem EnvD.runs(e:EnvD tab C G mg mb)(t:Fn)(h:t∈tab):Runs G (aO C n) (aO C.un n) (aO C (n+1)) t.f t.ps t.ls t.b:=λW v Q X l w=>by
 obtain⟨a,o,f,b,F⟩:=e.F t h;exact y7 (todoE e.g e.x) (sW e.g e.x) (todoE e.g.un e.x.un) (sW e.g.un e.x.un) e.g F t.ls l w
structure Gen(C:Cx)(n:Nat)(Q:D->Bool->Prop)(X:DX)(cl cu:DCl)(PQ:bT)(PX:DSX):Prop where
 hc:∀ {f as R Y},aR (aO C n) f as R Y->cl f as R Y
 io:∀ {f i as R},(aR<|aO C n).io f i as R->cl.io f i as R
 hu:∀ {f as R Y},aR (aO C.un n) f as R Y->cu f as R Y
 qn:∀ {Δ},Q .none Jc->PQ .next Δ
 qr:∀ {d b Δ},Q d b->PQ (.ret d b) Δ
 qx:∀ {c l Δ},X c l->PX c l Δ
theorem EnvD.fn(e:EnvD tab C G mg mb)(t:Fn)(h:t∈tab){args:List (D×Bool)}{Q:D->Bool->Prop}(l:t.ps.length=args.length)
  (w:∀c u P PX,Gen C n Q X c u P PX->dwss G c u t.b (drho0 t.ps t.ls args) P PX):aR (aO C<|n+1) t.f args Q X:=yQ l (w _ _ _ _ ⟨id,id,id,id,id,id⟩)<|e.runs t h
theorem EnvD.fnI(e:EnvD tab C G mg mb)(t:Fn)(h:t∈tab){args:List (D×Bool)}{Q:D->Prop}{x:String}{i:Nat}(l:t.ps.length=args.length)(o:t.ps.Nodup)(hx:t.ps[i]? =Ja x)(a:S.noass x t.b=Jc)
  (w:dwss G (aR<|aO C n) (aR<|aO C.un n) t.b (drho0 t.ps t.ls args) (dendI x Q) λo0 o0 o0=>False):(aR<|aO C (n+1)).io t.f i args Q:=uQ l o hx a w<|e.runs t h
end
section
variable{C:Cx}{G:Gx}{mg mb:Jq->Option Jf}{n:Nat}
theorem qD{c:Cls}(h:initM c sc b=Jc):X2 λy f=>A3 (b=[y,f]) (mAsg sc c.f1 c.e1 y=Jc) (mAsg sc c.f2 c.e2 f=Jc):=by
 rcases b with o0|⟨y,o0|⟨f,o0|⟨o0,o0⟩⟩⟩<;>first|exact ft h|exact⟨y,f,rfl,(Qg.mp h).1,(Qg.mp h).2⟩
theorem vG(g:GOK C G mg mb)(T:Todo C G n){c:Cls}(K:ClsC C c)(Y:c.e1= .loc c.a1)(u:"self"≠c.a1){d:D}{Q:D->Bool->Prop}
  (w:dwe G (aR<|aO C n) c.e2 [("self",Jb),(c.a1,Ja (d,Jd))] (λd2 A=>A=Jb/\Q (.inst [d,d2]) Jc) λo0 o0=>False):aR (aO C<|n+2) "Bounds" [(d,Jc)] Q X:=by
 intro t vs Fs Q' X' J k kx;cases J with
 |@cons _ _ v F _ ab ac r nd _ J=>
 cases J;obtain⟨a,i,B,S,fl,o0⟩:=K;obtain⟨fI,N,F0,o0,o0,o0,o0,o0,ne⟩:=S;obtain⟨oI,fd,p,Fn,Z,hm⟩:=F0;obtain⟨y1,y2,rfl,m,L⟩:=qD hm;refine xF g i B N.kp N Fn Z m L fl ne (bG T g c.e1) (bG T g c.e2) [] λx hx=> ?_;have l:(rho0 ["self",c.a1] [] [.ref x,v]).get c.a1=Ja v:=(Y7 u).trans (Y8 rfl);rw[Y];show oV _ ((rho0 ["self",c.a1] [] [.ref x,v]).get c.a1);rw[l];have ee:EnvE t [("self",Jb),(c.a1,Ja (d,Jd))] (rho0 ["self",c.a1] [] [.ref x,v]) (λy=>if y=c.a1 then F else []):=by
  refine⟨λy d' b e=> ?_,λy a H=> ?_,rfl⟩
  ·by_cases q:y=c.a1
   ·subst q;have e1:DRho.get [("self",Jb),(c.a1,Ja (d,Jd))] c.a1=Ja (d,Jd):=by
     rw[get_c,beq_eq_false_iff_ne.mpr u,get_c,beq_self_eq_true];rfl
    obtain⟨rfl,rfl⟩:=Prod.mk.inj<|sj (e1.symm.trans e);exact⟨v,l,by rw[Y8 rfl];exact r⟩
   ·rw[get_c,get_c,beq_eq_false_iff_ne.mpr (Ne.symm q)] at e;by_cases z:("self"==y)=Jc
    ·rw[z] at e;exact ns e
    ·rw[Bool.eq_false_iff.mpr z] at e;exact ns e
  ·by_cases q:y=c.a1
   ·rw[Y8 q] at H;exact r.dom a H
   ·rw[Y7 q] at H;cases H
 refine aV c.e2 _ _ _ t _ (λo0 o0=>False) _ _ ee w (λd2 A R O P I W=> ?_) λo0 o0 o0 o0 o0 h o0=>h.elim;intro f E h1 h2 U;obtain⟨rfl,I⟩:=I;have V:Ext O ((O.set f<|.fd "Bounds" [v,R]).set E (.inst f)):=(Ext.set h1 _).trans (Ext.set ((PH.set_ne _ _<|Ne.symm U).trans h2) _);have M:=W.part.own rfl;have j:∀a∈F,a∈owned [(d,Jc)] [F]:=λa H=>Ql _ H;have s:Ext t ((O.set f<|.fd "Bounds" [v,R]).set E (.inst f)):=W.ext.trans V;refine k (.inst [d,d2]) Jc (.ref E) _ (F++P) I ⟨⟨E,f,[v,R],rfl,PH.set_same _ _ _,(PH.set_ne _ _ U).trans (PH.set_same _ _ _),v,[R],F,P,rfl,rfl,r.ext s,R,[],P,[],rfl,(QI _).symm,W.rd.ext V,rfl,rfl⟩,λa o e o0=>s a o e,λo0=>⟨?_,λa H=> ?_⟩,λa H=> ?_⟩
 ·refine Qv.mpr ⟨nd rfl,M.1,λa H b hb q=> ?_⟩;subst q;obtain⟨o,e⟩:=r.dom a H;exact ns<|(M.2 a hb).symm.trans e
 ·rcases Qt.mp H with H|H
  ·exact .inr<|j a H
  ·exact .inl<|M.2 a H
 ·rcases Qt.mp H with H|H
  ·exact .inr<|Ql _ H
  ·exact .inl<|M.2 a H
end
noncomputable def g7:Fn:=⟨"near_of",["places"],["found","place"],
 [.assign (.name "found") (.dict0),
  .for_ (.name "place") .val [.loc "places"] [.expr (.meth (.sd (.loc "found")<|.tup [.glob "ROW",.sub (.loc "place") (.int 0)]) .append [.tup [.tup [.glob "COLUMN",.sub (.loc "place") (.int 1)],.loc "place"]]),.expr (.meth (.sd (.loc "found")<|.tup [.glob "COLUMN",.sub (.loc "place") (.int 1)]) .append [.tup [.tup [.glob "ROW",.sub (.loc "place") (.int 0)],.loc "place"]])],
  .ret (.loc "found")]⟩
noncomputable def eM:Fn:=⟨"reached",["near","counts","starts","banned"],["came","waiting","start","at","here","other","place"],
 [.assign (.name "came") (.dict0),
  .assign (.name "waiting") (.list []),
  .for_ (.name "start") .val [.loc "starts"] [.setIdx (.loc "came") (.loc "start") (.none),.expr (.meth (.loc "waiting") .append [.loc "start"])],
  .assign (.name "at") (.int 0),
  .while_ (.cmp .lt (.loc "at")<|.bi .len [.loc "waiting"]) [.assign (.name "here") (.sub (.loc "waiting")<|.loc "at"),.assign (.name "at")<|.bin .add (.loc "at") (.int 1),.for_ (.tup ["other","place"]) .val [.get (.loc "near") (.loc "here")] [.if_ (.and_ (.cmp .nin (.loc "other")<|.loc "came")<|.and_ (.cmp .ne (.loc "place")<|.loc "banned") (.or_ (.cmp .eq (.sub (.loc "here")<|.int 0)<|.glob "ROW")<|.cmp (.gt ()) (.sub (.loc "counts")<|.loc "place") (.int 0))) [.setIdx (.loc "came") (.loc "other") (.tup [.loc "here",.loc "place"]),.expr (.meth (.loc "waiting") .append [.loc "other"])] []]],
  .ret (.loc "came")]⟩
noncomputable def iT:Fn:=⟨"way_to",["came","goal"],["raised","lowered","here","ahead","place"],
 [.assign (.name "raised") (.list []),
  .assign (.name "lowered") (.list []),
  .assign (.name "here") (.loc "goal"),
  .while_ (.notNone<|.sub (.loc "came") (.loc "here")) [.assign (.tup ["ahead","place"]) (.sub (.loc "came")<|.loc "here"),.if_ (.cmp .eq (.sub (.loc "here")<|.int 0)<|.glob "COLUMN") [.expr (.meth (.loc "raised") .append [.loc "place"])] [.expr (.meth (.loc "lowered") .append [.loc "place"])],.assign (.name "here") (.loc "ahead")],
  .ret (.tup [.loc "raised",.loc "lowered",.loc "here"])]⟩
noncomputable def mf:Fn:=⟨"move",["counts","raised","lowered","amount"],["place"],
 [.for_ (.name "place") .val [.loc "raised"] [.setIdx (.loc "counts") (.loc "place") (.bin .add (.sub (.loc "counts") (.loc "place")) (.loc "amount"))],
  .for_ (.name "place") .val [.loc "lowered"] [.setIdx (.loc "counts") (.loc "place") (.bin .sub (.sub (.loc "counts") (.loc "place")) (.loc "amount"))]]⟩
noncomputable def eK:Fn:=⟨"numbers_of",["came","kind"],[],
 [.ret (.bi .sorted [.compIf (.loc "number") (.tup ["word","number"]) .val [.bi .list [.loc "came"]] (.cmp .eq (.loc "word") (.loc "kind"))])]⟩
noncomputable def dY:Fn:=⟨"is_count",["thing"],[],
 [.ret (.and_ (.isi (.loc "thing") ["int"]) (.and_ (.not_ (.isi (.loc "thing") ["bool"])) (.cmp .ge (.loc "thing") (.int 0))))]⟩
noncomputable def gS:Fn:=⟨"is_grid",["thing"],[],
 [.if_ (.or_ (.not_ (.isi (.loc "thing") ["list"])) (.not_ (.cmp2 (.int 1) .le (.bi .len [.loc "thing"]) .le (.glob "MOST")))) [.ret (.bool Jd)] [],
  .if_ (.or_ (.not_<|.bi .all [.comp (.isi (.loc "row") ["list"]) (.name "row") .val [.loc "thing"]])<|.not_ (.cmp2 (.int 1) .le (.bi .len [.sub (.loc "thing") (.int 0)]) .le<|.glob "MOST")) [.ret (.bool Jd)] [],
  .ret (.bi .all [.comp (.cmp .eq (.bi .len [.loc "row"]) (.bi .len [.sub (.loc "thing") (.int 0)])) (.name "row") .val [.loc "thing"]])]⟩
noncomputable def ef:Fn:=⟨"need_number",["thing"],[],
 [.if_ (.or_ (.not_ (.call "is_count" [.loc "thing"])) (.cmp .eq (.loc "thing") (.int 0))) [.raise "BadNumber" [.str "no number from 1 on"]] []]⟩
noncomputable def fi:Fn:=⟨"places_of",["grid"],["found","row","column"],
 [.assign (.name "found") (.list []),
  .for_ (.name "row") .range [.bi .len [.loc "grid"]] [.for_ (.name "column") .range [.bi .len [.sub (.loc "grid") (.int 0)]] [.expr (.meth (.loc "found") .append [.tup [.loc "row",.loc "column"]])]],
  .ret (.loc "found")]⟩
noncomputable def fU:Fn:=⟨"rests_of",["view"],["cells","rows","columns","found","others","k"],
 [.assign (.tup ["cells","rows","columns"]) (.loc "view"),
  .assign (.name "found") (.comp (.bin .sub (.sub (.loc "rows")<|.loc "k")<|.bi .sum [.compIf (.loc "count") (.name "count") .val [.sub (.loc "cells") (.loc "k")] (.notNone<|.loc "count")]) (.name "k") .range [.bi .len [.loc "rows"]]),
  .assign (.name "others") (.list []),
  .for_ (.name "k") .range [.bi .len [.loc "columns"]] [.expr (.meth (.loc "others") .append [.bin .sub (.sub (.loc "columns")<|.loc "k") (.bi .sum [.compIf (.sub (.loc "row")<|.loc "k") (.name "row") .val [.loc "cells"] (.notNone<|.sub (.loc "row") (.loc "k"))])])],
  .ret (.tup [.loc "found",.loc "others"])]⟩
noncomputable def fX:Fn:=⟨"are_sums",["thing","many"],[],
 [.ret (.and_ (.isi (.loc "thing") ["list"]) (.and_ (.cmp .eq (.bi .len [.loc "thing"]) (.loc "many")) (.bi .all [.comp (.call "is_count" [.loc "one"]) (.name "one") .val [.loc "thing"]])))]⟩
noncomputable def gR:Fn:=⟨"is_view",["thing"],["row","rows","columns"],
 [.if_ (.or_ (.not_ (.isi (.loc "thing") ["tuple"])) (.or_ (.cmp .ne (.bi .len [.loc "thing"]) (.int 3)) (.not_ (.call "is_grid" [.sub (.loc "thing") (.int 0)])))) [.ret (.bool Jd)] [],
  .for_ (.name "row") .val [.sub (.loc "thing") (.int 0)] [.if_ (.not_<|.bi .all [.comp (.or_ (.isNone<|.loc "count")<|.call "is_count" [.loc "count"]) (.name "count") .val [.loc "row"]]) [.ret (.bool Jd)] []],
  .if_ (.or_ (.not_<|.call "are_sums" [.sub (.loc "thing") (.int 1),.bi .len [.sub (.loc "thing") (.int 0)]])<|.not_ (.call "are_sums" [.sub (.loc "thing") (.int 2),.bi .len [.sub (.sub (.loc "thing")<|.int 0) (.int 0)]])) [.ret (.bool Jd)] [],
  .assign (.tup ["rows","columns"]) (.call "rests_of" [.loc "thing"]),
  .ret (.and_ (.cmp .ge (.bi .min [.loc "rows"]) (.int 0)) (.and_ (.cmp .ge (.bi .min [.loc "columns"]) (.int 0)) (.cmp .eq (.bi .sum [.loc "rows"]) (.bi .sum [.loc "columns"]))))]⟩
noncomputable def e8:Fn:=⟨"need_view",["thing"],[],
 [.if_ (.not_ (.call "is_view" [.loc "thing"])) [.raise "BadView" [.str "no view"]] []]⟩
noncomputable def gk:Fn:=⟨"is_place",["thing","grid"],[],
 [.if_ (.or_ (.not_ (.isi (.loc "thing") ["tuple"])) (.or_ (.cmp .ne (.bi .len [.loc "thing"]) (.int 2)) (.or_ (.not_ (.call "is_count" [.sub (.loc "thing") (.int 0)])) (.not_ (.call "is_count" [.sub (.loc "thing") (.int 1)]))))) [.ret (.bool Jd)] [],
  .ret (.and_ (.cmp .lt (.sub (.loc "thing") (.int 0)) (.bi .len [.loc "grid"])) (.cmp .lt (.sub (.loc "thing") (.int 1)) (.bi .len [.sub (.loc "grid") (.int 0)])))]⟩
noncomputable def fq:Fn:=⟨"hidden_in",["cells"],[],
 [.ret (.compIf (.loc "place") (.name "place") .val [.call "places_of" [.loc "cells"]] (.isNone (.sub (.sub (.loc "cells") (.sub (.loc "place") (.int 0))) (.sub (.loc "place") (.int 1)))))]⟩
noncomputable def fj:Fn:=⟨"counts_of",["view"],["places","near","counts","place","rows","columns","came","goals","raised","lowered","start","amount"],
 [.assign (.name "places") (.call "hidden_in" [.sub (.loc "view") (.int 0)]),
  .assign (.name "near") (.call "near_of" [.loc "places"]),
  .assign (.name "counts") (.dict0),
  .for_ (.name "place") .val [.loc "places"] [.setIdx (.loc "counts") (.loc "place") (.int 0)],
  .assign (.tup ["rows","columns"]) (.call "rests_of" [.loc "view"]),
  .while_ (.cmp (.gt ()) (.bi .sum [.loc "rows"])<|.int 0) [.assign (.name "came") (.call "reached" [.loc "near",.loc "counts",.compIf (.tup [.glob "ROW",.loc "k"]) (.name "k") .range [.bi .len [.loc "rows"]] (.cmp (.gt ()) (.sub (.loc "rows")<|.loc "k")<|.int 0),.none]),.assign (.name "goals")<|.compIf (.loc "k") (.name "k") .val [.call "numbers_of" [.loc "came",.glob "COLUMN"]] (.cmp (.gt ()) (.sub (.loc "columns")<|.loc "k")<|.int 0),.if_ (.cmp .eq (.loc "goals")<|.list []) [.raise "NoTable" [.call "numbers_of" [.loc "came",.glob "ROW"],.call "numbers_of" [.loc "came",.glob "COLUMN"]]] [],.assign (.tup ["raised","lowered","start"])<|.call "way_to" [.loc "came",.tup [.glob "COLUMN",.sub (.loc "goals") (.int 0)]],.assign (.name "amount")<|.bi .min [.bin .add (.list [.sub (.loc "rows") (.sub (.loc "start")<|.int 1),.sub (.loc "columns") (.sub (.loc "goals")<|.int 0)]) (.comp (.sub (.loc "counts")<|.loc "place") (.name "place") .val [.loc "lowered"])],.expr<|.call "move" [.loc "counts",.loc "raised",.loc "lowered",.loc "amount"],.setIdx (.loc "rows") (.sub (.loc "start")<|.int 1)<|.bin .sub (.sub (.loc "rows")<|.sub (.loc "start") (.int 1)) (.loc "amount"),.setIdx (.loc "columns") (.sub (.loc "goals")<|.int 0) (.bin .sub (.sub (.loc "columns")<|.sub (.loc "goals") (.int 0))<|.loc "amount")],
  .ret (.loc "counts")]⟩
noncomputable def ej:Fn:=⟨"with_counts",["view","counts"],["table","row","column"],
 [.assign (.name "table") (.comp (.bi .list [.loc "row"]) (.name "row") .val [.sub (.loc "view") (.int 0)]),
  .for_ (.tup ["row","column"]) .val [.bi .list [.loc "counts"]] [.setIdx (.sub (.loc "table")<|.loc "row") (.loc "column") (.sub (.loc "counts")<|.tup [.loc "row",.loc "column"])],
  .ret (.loc "table")]⟩
noncomputable def iV:Fn:=⟨"filled",["view"],[],
 [.expr (.call "need_view" [.loc "view"]),
  .ret (.call "with_counts" [.loc "view",.call "counts_of" [.loc "view"]])]⟩
noncomputable def fu:Fn:=⟨"bounds_at",["view","place"],[],
 [.expr (.call "need_view" [.loc "view"]),
  .if_ (.or_ (.not_<|.call "is_place" [.loc "place",.sub (.loc "view") (.int 0)])<|.cmp .nin (.loc "place") (.call "hidden_in" [.sub (.loc "view") (.int 0)])) [.raise "BadPlace" [.str "no hidden place"]] [],
  .ret (.call "Bounds" [.call "counts_of" [.loc "view"]])]⟩
noncomputable def lH:Fn:=⟨"ends",["view","place"],["bounds","low","high"],
 [.assign (.name "bounds") (.call "bounds_at" [.loc "view",.loc "place"]),
  .assign (.name "low") (.sub (.mcall "Bounds.least" (.loc "bounds") [.loc "place",.none])<|.int 0),
  .assign (.name "high") (.sub (.mcall "Bounds.greatest" (.loc "bounds") [.loc "place",.none])<|.int 0),
  .ret (.tup [.call "with_counts" [.loc "view",.loc "low"],.call "with_counts" [.loc "view",.loc "high"]])]⟩
noncomputable def jJ:Fn:=⟨"walls",["view","place"],[],
 [.ret (.mcall "Bounds.walls" (.call "bounds_at" [.loc "view",.loc "place"]) [.loc "place",.bi .len [.sub (.loc "view") (.int 1)],.bi .len [.sub (.loc "view") (.int 2)]])]⟩
noncomputable def eL:Fn:=⟨"given_away",["view","width"],["bounds"],
 [.expr (.call "need_view" [.loc "view"]),
  .expr (.call "need_number" [.loc "width"]),
  .assign (.name "bounds") (.call "Bounds" [.call "counts_of" [.loc "view"]]),
  .ret (.compIf (.loc "place") (.name "place") .val [.call "hidden_in" [.sub (.loc "view") (.int 0)]] (.mcall "Bounds.is_given_away" (.loc "bounds") [.loc "place",.loc "width"]))]⟩
noncomputable def f__law_mix:Fn:=⟨"_law_mix",["_law_script","_law_k"],["_law_cell","_law_number"],
 [.assign (.name "_law_cell") (.int 0),
  .if_ (.cmp (.gt ()) (.bi .len [.loc "_law_script"])<|.int 0) [.assign (.name "_law_cell") (.bin .add (.sub (.loc "_law_script")<|.bin .mod (.loc "_law_k") (.bi .len [.loc "_law_script"]))<|.bin .fdiv (.loc "_law_k") (.bi .len [.loc "_law_script"]))] [],
  .assign (.name "_law_number") (.bin .mod (.bin .mul (.bin .add (.loc "_law_cell")<|.bin .mul (.int 7919) (.bin .add (.loc "_law_k")<|.int 1))<|.int 48271)<|.int 2147483647),
  .ret (.bin .mod (.bin .mul (.loc "_law_number") (.loc "_law_number")) (.int 2147483629))]⟩
noncomputable def fS:Fn:=⟨"_law_all",["_law_table"],["_law_found","_law_row"],
 [.assign (.name "_law_found") (.list []),
  .for_ (.name "_law_row") .range [.bi .len [.loc "_law_table"]] [.assign (.name "_law_found") (.bin .add (.loc "_law_found")<|.comp (.tup [.loc "_law_row",.loc "_law_column"]) (.name "_law_column") .range [.bi .len [.sub (.loc "_law_table") (.int 0)]])],
  .ret (.loc "_law_found")]⟩
noncomputable def d9:Fn:=⟨"_law_places",["_law_script","_law_table"],["_law_share","_law_some"],
 [.assign (.name "_law_share") (.bin .sub (.bin .mod (.call "_law_mix" [.loc "_law_script",.int 6]) (.int 5)) (.int 1)),
  .assign (.name "_law_some") (.call "_law_all" [.loc "_law_table"]),
  .ret (.compIf (.sub (.loc "_law_some") (.loc "_law_k")) (.name "_law_k") .range [.bi .len [.loc "_law_some"]] (.cmp (.gt ()) (.bin .mod (.call "_law_mix" [.loc "_law_script",.bin .add (.int 80) (.loc "_law_k")]) (.int 5)) (.loc "_law_share")))]⟩
noncomputable def cx:Fn:=⟨"_law_column_sums",["_law_table"],[],
 [.ret (.comp (.bi .sum [.comp (.sub (.loc "_law_row") (.loc "_law_column")) (.name "_law_row") .val [.loc "_law_table"]]) (.name "_law_column") .range [.bi .len [.sub (.loc "_law_table") (.int 0)]])]⟩
noncomputable def fh:Fn:=⟨"_law_view",["_law_table","_law_places_here"],["_law_cells","_law_row"],
 [.assign (.name "_law_cells") (.list []),
  .for_ (.name "_law_row") .range [.bi .len [.loc "_law_table"]] [.expr (.meth (.loc "_law_cells") .append [.comp (.sub (.list [.sub (.sub (.loc "_law_table")<|.loc "_law_row") (.loc "_law_at"),.none])<|.bi .int [.cmp .in_ (.tup [.loc "_law_row",.loc "_law_at"]) (.loc "_law_places_here")]) (.name "_law_at") .range [.bi .len [.sub (.loc "_law_table") (.int 0)]]])],
  .ret (.tup [.loc "_law_cells",.comp (.bi .sum [.loc "_law_row"]) (.name "_law_row") .val [.loc "_law_table"],.call "_law_column_sums" [.loc "_law_table"]])]⟩
noncomputable def jE:Fn:=⟨"_law_copy",["_law_view_here"],[],
 [.ret (.tup [.comp (.bi .list [.loc "_law_row"]) (.name "_law_row") .val [.sub (.loc "_law_view_here") (.int 0)],.bi .list [.sub (.loc "_law_view_here") (.int 1)],.bi .list [.sub (.loc "_law_view_here") (.int 2)]])]⟩
noncomputable def eF:Fn:=⟨"_law_rests",["_law_view_here"],["_law_cells","_law_left","_law_shown"],
 [.assign (.name "_law_cells") (.comp (.comp (.sub (.list [.loc "_law_count",.int 0]) (.bi .int [.isNone (.loc "_law_count")])) (.name "_law_count") .val [.loc "_law_row"]) (.name "_law_row") .val [.sub (.loc "_law_view_here") (.int 0)]),
  .assign (.name "_law_left") (.comp (.bin .sub (.sub (.sub (.loc "_law_view_here")<|.int 1)<|.loc "_law_row")<|.bi .sum [.sub (.loc "_law_cells") (.loc "_law_row")]) (.name "_law_row") .range [.bi .len [.loc "_law_cells"]]),
  .assign (.name "_law_shown") (.call "_law_column_sums" [.loc "_law_cells"]),
  .ret (.tup [.loc "_law_left",.comp (.bin .sub (.sub (.sub (.loc "_law_view_here") (.int 2)) (.loc "_law_column")) (.sub (.loc "_law_shown") (.loc "_law_column"))) (.name "_law_column") .range [.bi .len [.loc "_law_shown"]]])]⟩
noncomputable def ec:Fn:=⟨"_law_hidden",["_law_view_here"],[],
 [.ret (.compIf (.loc "_law_place") (.name "_law_place") .val [.call "_law_all" [.sub (.loc "_law_view_here") (.int 0)]] (.isNone (.sub (.sub (.sub (.loc "_law_view_here") (.int 0)) (.sub (.loc "_law_place") (.int 0))) (.sub (.loc "_law_place") (.int 1)))))]⟩
noncomputable def d6:Fn:=⟨"_law_shared",["_law_script","_law_k","_law_many","_law_total"],["_law_parts","_law_left","_law_number","_law_part","_law_at"],
 [.assign (.name "_law_parts") (.list []),
  .assign (.name "_law_left") (.loc "_law_total"),
  .for_ (.name "_law_number") .range [.loc "_law_many"] [.assign (.name "_law_part") (.loc "_law_left"),.if_ (.cmp .lt (.loc "_law_number")<|.bin .sub (.loc "_law_many") (.int 1)) [.assign (.name "_law_part") (.bin .mod (.call "_law_mix" [.loc "_law_script",.bin .add (.loc "_law_k") (.loc "_law_number")])<|.bin .add (.loc "_law_left") (.int 1)),.if_ (.cmp .eq (.bin .mod (.bin .fdiv (.call "_law_mix" [.loc "_law_script",.bin .add (.loc "_law_k") (.loc "_law_number")])<|.int 8192)<|.int 3)<|.int 0) [.assign (.name "_law_part") (.sub (.list [.int 0,.loc "_law_left"])<|.bin .mod (.bin .fdiv (.call "_law_mix" [.loc "_law_script",.bin .add (.loc "_law_k") (.loc "_law_number")])<|.int 24576) (.int 2))] []] [],.expr<|.meth (.loc "_law_parts") .append [.loc "_law_part"],.assign (.name "_law_left") (.bin .sub (.loc "_law_left")<|.loc "_law_part")],
  .assign (.name "_law_at") (.bin .mod (.call "_law_mix" [.loc "_law_script",.bin .add (.loc "_law_k") (.loc "_law_many")])<|.loc "_law_many"),
  .ret (.bin .add (.from_ (.loc "_law_parts") (.loc "_law_at")) (.upto (.loc "_law_parts") (.loc "_law_at")))]⟩
noncomputable def eE:Fn:=⟨"_law_upper",["_law_view_here"],["_law_left","_law_below","_law_found","_law_column","_law_some","_law_rows","_law_row"],
 [.assign (.tup ["_law_left","_law_below"]) (.call "_law_rests" [.loc "_law_view_here"]),
  .assign (.name "_law_found") (.list [.list []]),
  .for_ (.name "_law_column") .range [.bi .len [.loc "_law_below"]] [.assign (.name "_law_some") (.list [.int 0]),.if_ (.isNone<|.sub (.sub (.sub (.loc "_law_view_here")<|.int 0)<|.int 0) (.loc "_law_column")) [.assign (.name "_law_some") (.lr<|.bin .add (.bi .min2 [.sub (.loc "_law_left") (.int 0),.sub (.loc "_law_below") (.loc "_law_column")]) (.int 1))] [],.assign (.name "_law_rows")<|.list [],.for_ (.name "_law_row") .val [.loc "_law_found"] [.assign (.name "_law_rows") (.bin .add (.loc "_law_rows")<|.comp (.bin .add (.loc "_law_row")<|.list [.loc "_law_count"]) (.name "_law_count") .val [.loc "_law_some"])],.assign (.name "_law_found") (.loc "_law_rows")],
  .ret (.compIf (.loc "_law_row") (.name "_law_row") .val [.loc "_law_found"] (.cmp .eq (.bi .sum [.loc "_law_row"]) (.sub (.loc "_law_left") (.int 0))))]⟩
noncomputable def eg:Fn:=⟨"_law_tables",["_law_view_here"],["_law_left","_law_below","_law_found","_law_row","_law_under","_law_free"],
 [.assign (.tup ["_law_left","_law_below"]) (.call "_law_rests" [.loc "_law_view_here"]),
  .assign (.name "_law_found") (.list []),
  .for_ (.name "_law_row") .val [.call "_law_upper" [.loc "_law_view_here"]] [.assign (.name "_law_under") (.comp (.bin .sub (.sub (.loc "_law_below")<|.loc "_law_column")<|.sub (.loc "_law_row") (.loc "_law_column")) (.name "_law_column") .range [.bi .len [.loc "_law_row"]]),.assign (.name "_law_free")<|.comp (.or_ (.isNone<|.sub (.sub (.sub (.loc "_law_view_here")<|.int 0)<|.int 1) (.loc "_law_column"))<|.cmp .eq (.sub (.loc "_law_under")<|.loc "_law_column") (.int 0)) (.name "_law_column") .range [.bi .len [.loc "_law_row"]],.if_ (.and_ (.cmp .ge (.bi .min [.loc "_law_under"])<|.int 0)<|.bi .all [.loc "_law_free"]) [.expr (.meth (.loc "_law_found") .append [.list [.call "_law_put" [.sub (.sub (.loc "_law_view_here")<|.int 0) (.int 0),.loc "_law_row"],.call "_law_put" [.sub (.sub (.loc "_law_view_here")<|.int 0) (.int 1),.loc "_law_under"]]])] []],
  .ret (.loc "_law_found")]⟩
noncomputable def gp:Fn:=⟨"_law_put",["_law_cells","_law_counts"],[],
 [.ret (.comp (.sub (.list [.sub (.loc "_law_cells") (.loc "_law_k"),.sub (.loc "_law_counts") (.loc "_law_k")]) (.bi .int [.isNone (.sub (.loc "_law_cells") (.loc "_law_k"))])) (.name "_law_k") .range [.bi .len [.loc "_law_cells"]])]⟩
noncomputable def ei:Fn:=⟨"_law_turned",["_law_view_here","_law_about"],["_law_cells"],
 [.if_ (.not_ (.loc "_law_about")) [.ret (.loc "_law_view_here")] [],
  .assign (.name "_law_cells") (.comp (.comp (.sub (.loc "_law_row")<|.loc "_law_column") (.name "_law_row") .val [.sub (.loc "_law_view_here") (.int 0)]) (.name "_law_column") .range [.bi .len [.sub (.sub (.loc "_law_view_here")<|.int 0) (.int 0)]]),
  .ret (.tup [.loc "_law_cells",.bi .list [.sub (.loc "_law_view_here") (.int 2)],.bi .list [.sub (.loc "_law_view_here") (.int 1)]])]⟩
noncomputable def e9:Fn:=⟨"_law_none",["_law_view_here","_law_place","_law_width"],["_law_many"],
 [.assign (.name "_law_many") (.int 0),
  .try1 [.expr (.call "filled" [.loc "_law_view_here"])] "NoTable" [.assign (.name "_law_many") (.bin .add (.loc "_law_many")<|.int 1)],
  .try1 [.expr (.call "ends" [.loc "_law_view_here",.loc "_law_place"])] "NoTable" [.assign (.name "_law_many") (.bin .add (.loc "_law_many")<|.int 1)],
  .try1 [.expr (.call "given_away" [.loc "_law_view_here",.loc "_law_width"])] "NoTable" [.assign (.name "_law_many") (.bin .add (.loc "_law_many")<|.int 1)],
  .ret (.cmp .eq (.loc "_law_many") (.int 3))]⟩
noncomputable def fk:Fn:=⟨"_law_same",["_law_view_here","_law_about","_law_place","_law_counts"],["_law_spot","_law_low","_law_high","_law_both","_law_found"],
 [.assign (.name "_law_spot") (.sub (.list [.loc "_law_place",.tup [.sub (.loc "_law_place") (.int 1),.sub (.loc "_law_place") (.int 0)]]) (.bi .int [.loc "_law_about"])),
  .assign (.tup ["_law_low","_law_high"]) (.call "ends" [.call "_law_turned" [.loc "_law_view_here",.loc "_law_about"],.loc "_law_spot"]),
  .assign (.name "_law_both") (.call "walls" [.call "_law_turned" [.loc "_law_view_here",.loc "_law_about"],.loc "_law_spot"]),
  .assign (.name "_law_found") (.tup [.sub (.sub (.loc "_law_low")<|.sub (.loc "_law_spot") (.int 0)) (.sub (.loc "_law_spot")<|.int 1),.sub (.sub (.loc "_law_high")<|.sub (.loc "_law_spot") (.int 0)) (.sub (.loc "_law_spot")<|.int 1)]),
  .ret (.and_ (.cmp .eq (.loc "_law_found") (.tup [.bi .min [.loc "_law_counts"],.bi .max [.loc "_law_counts"]])) (.cmp .eq (.tup [.sub (.sub (.loc "_law_both") (.int 0)) (.int 0),.sub (.sub (.loc "_law_both") (.int 1)) (.int 0)]) (.loc "_law_found")))]⟩
noncomputable def f_law:Fn:=⟨"law",["_law_script"],["_law_wide","_law_table","_law_view_here","_law_left","_law_below","_law_rows","_law_columns","_law_hidden_here","_law_about","_law_width","_law_tables_here","_law_place","_law_due","_law_counts"],
 [.assign (.name "_law_wide") (.bin .add (.int 1) (.bin .mod (.call "_law_mix" [.loc "_law_script",.int 1]) (.int 3))),
  .assign (.name "_law_table") (.comp (.comp (.bin .mod (.call "_law_mix" [.loc "_law_script",.bin .add (.bin .add (.int 8)<|.bin .mul (.loc "_law_wide") (.loc "_law_row")) (.loc "_law_column")])<|.int 5) (.name "_law_column") .range [.loc "_law_wide"]) (.name "_law_row") .range [.int 2]),
  .assign (.name "_law_view_here") (.call "_law_view" [.loc "_law_table",.call "_law_places" [.loc "_law_script",.loc "_law_table"]]),
  .assign (.tup ["_law_left","_law_below"]) (.call "_law_rests" [.loc "_law_view_here"]),
  .if_ (.cmp .eq (.bin .mod (.call "_law_mix" [.loc "_law_script",.int 7])<|.int 2)<|.int 0) [.assign (.name "_law_rows") (.call "_law_shared" [.loc "_law_script",.int 20,.int 2,.bin .add (.int 1) (.bin .mod (.call "_law_mix" [.loc "_law_script",.int 9])<|.int 9)]),.assign (.name "_law_columns")<|.call "_law_shared" [.loc "_law_script",.int 40,.loc "_law_wide",.bi .sum [.loc "_law_rows"]],.assign (.name "_law_view_here")<|.tup [.sub (.loc "_law_view_here") (.int 0),.comp (.bin .add (.bin .sub (.sub (.sub (.loc "_law_view_here")<|.int 1)<|.loc "_law_row")<|.sub (.loc "_law_left") (.loc "_law_row"))<|.sub (.loc "_law_rows") (.loc "_law_row")) (.name "_law_row") .range [.int 2],.sub (.loc "_law_view_here") (.int 2)],.assign (.name "_law_view_here") (.tup [.sub (.loc "_law_view_here") (.int 0),.sub (.loc "_law_view_here")<|.int 1,.comp (.bin .add (.bin .sub (.sub (.sub (.loc "_law_view_here")<|.int 2)<|.loc "_law_at")<|.sub (.loc "_law_below") (.loc "_law_at"))<|.sub (.loc "_law_columns") (.loc "_law_at")) (.name "_law_at") .range [.loc "_law_wide"]])] [],
  .assign (.name "_law_hidden_here") (.call "_law_hidden" [.loc "_law_view_here"]),
  .if_ (.cmp .eq (.loc "_law_hidden_here")<|.list []) [.ret (.bool Jc)] [],
  .assign (.name "_law_about") (.cmp .eq (.bin .mod (.bin .fdiv (.call "_law_mix" [.loc "_law_script",.int 7])<|.int 2)<|.int 2)<|.int 1),
  .assign (.name "_law_width") (.bin .add (.int 1)<|.bin .mod (.call "_law_mix" [.loc "_law_script",.int 4]) (.int 6)),
  .assign (.name "_law_tables_here") (.call "_law_tables" [.loc "_law_view_here"]),
  .if_ (.cmp .eq (.loc "_law_tables_here")<|.list []) [.assign (.name "_law_place") (.sub (.list [.sub (.loc "_law_hidden_here") (.int 0),.tup [.sub (.sub (.loc "_law_hidden_here")<|.int 0) (.int 1),.sub (.sub (.loc "_law_hidden_here")<|.int 0) (.int 0)]])<|.bi .int [.loc "_law_about"]),.ret (.call "_law_none" [.call "_law_turned" [.loc "_law_view_here",.loc "_law_about"],.loc "_law_place",.loc "_law_width"])] [],
  .assign (.name "_law_due") (.list []),
  .for_ (.name "_law_place") .val [.loc "_law_hidden_here"] [.assign (.name "_law_counts") (.comp (.sub (.sub (.loc "_law_one")<|.sub (.loc "_law_place") (.int 0))<|.sub (.loc "_law_place") (.int 1)) (.name "_law_one") .val [.loc "_law_tables_here"]),.if_ (.not_<|.call "_law_same" [.loc "_law_view_here",.loc "_law_about",.loc "_law_place",.loc "_law_counts"]) [.ret (.bool Jd)] [],.if_ (.cmp .lt (.bin .sub (.bi .max [.loc "_law_counts"])<|.bi .min [.loc "_law_counts"])<|.loc "_law_width") [.expr (.meth (.loc "_law_due") .append [.sub (.list [.loc "_law_place",.tup [.sub (.loc "_law_place") (.int 1),.sub (.loc "_law_place") (.int 0)]]) (.bi .int [.loc "_law_about"])])] []],
  .ret (.cmp .eq (.call "given_away" [.call "_law_turned" [.loc "_law_view_here",.loc "_law_about"],.loc "_law_width"]) (.bi .sortp [.loc "_law_due"]))]⟩
def tab0:List Fn:=[g7,eM,iT,mf,eK,dY,gS,ef,fi,fU,fX,gR,e8,gk,fq,fj,ej,iV,fu,lH,jJ,eL,f__law_mix,fS,d9,cx,fh,jE,eF,ec,d6,eE,eg,gp,ei,e9,fk,f_law]
def tab:List Fn:=[g7,eM,iT,mf,eK,dY,gS,ef,fi,fU,fX,gR,e8,gk,fq,fj,ej,iV,fu,lH,jJ,eL,f__law_mix,fS,d9,cx,fh,jE,eF,ec,d6,eE,eg,gp,ei,e9,fk,f_law,cP,dF,ca,f_Bounds_walls]
abbrev G1:Gx:=gxE [("MOST",.int 8),("ROW",.str "row"),("COLUMN",.str "column")] tab0 kinds7
theorem most:G1.glob "MOST"=Ja (.int 8):=rfl
theorem fV(h:Q (.str "row") Jb):dglob Q (G1.glob "ROW"):=h
theorem fD(h:Q (.str "column") Jb):dglob Q (G1.glob "COLUMN"):=h
abbrev Env1(C:Cx)(G:Gx)(g m:Jq->Option Jf):Prop:=EnvD tab C G g m
theorem rg{n:Nat}(h:n<=8): -1000000<(n:Int)/\(n:Int)<=1000000:=⟨KL (by decide)<|QP n,Kk.mpr<|Qq h (by decide)⟩
section
variable{C:Cx}{mg mb:Jq->Option Jf}{n:Nat}{Q:D->Bool->Prop}{X:DX}
noncomputable def cellF(ns:List Int)(k:Int):Int:=if 0<ns.length then(ns[(k.fmod ns.length).toNat]?.getD 0)+k.fdiv ns.length else 0
def mixF(ns:List Int)(k:Int):Int:=
 let m:=((cellF ns k+7919*(k+1))*48271).fmod 2147483647
 (m*m).fmod 2147483629
theorem eB(e:Env1 C G1 mg mb){ns:List Int}(s:ns.length<=63)(h:Q (.int (mixF ns k)) Jc):aR (aO C (n+1)) "_law_mix" [(.scr ns,b),(.int k,b')] Q X:=by
 refine e.fn f__law_mix (by simp[tab]) rfl λl u P PX g=> ?_;dsimp only[f__law_mix];dsimp only[br,ci,bD];refine aZ ?_;dsimp only[aN,bq,aF,aK,Qa,aM,aB,aA];refine dJ ?_
 (dsimp only[bo,bM,aN,bj,bU,j0,aC,aE,bV,aD,aG,Qa,aJ,aB,aA,aL,wv,cD];refine⟨rfl,?_⟩)
 have f:∀c:Int,c=cellF ns k->dwss G1 l u (f__law_mix.b.drop 2) (Nb "_law_script" b (D.scr ns)<|Nb "_law_k" b' (D.int k)<|Nb "_law_cell" Jc (D.int c)<|No "_law_number" Jb<|[]) P PX:=λc Z=>by
  dsimp only[f__law_mix,List.drop];refine aZ ?_
  (dsimp only[bl,aN,aD,aG,Qa,aJ,aB,aA,aL,bB,cm,oO,dq,bq,aF,aK,aM];refine⟨.inl<|by decide,.inr<|by decide,by decide,?_⟩)
  refine b0 ?_;dsimp only[bl,aN,aD,aG,Qa,aA,aB,aL,bB,oO,dq,aF];refine⟨.inl ?_,by decide,?_⟩
  ·have:=iE (a:=(c+7919*(k+1))*48271) (b:=2147483647) (by decide);exact Nat.lt_trans (Int.natAbs_lt_natAbs_of_nonneg_of_lt this.1 this.2)<|by decide
  ·rw[Z];exact g.qr h
 refine cB (λi=> ?_) λi=> ?_
 ·refine aZ ?_;have M:=iE (a:=k) (b:=ns.length) i
  (dsimp only[bl,bj,bU,aC,aE,bV,aD,aG,Qa,aJ,aB,aA,aL,wv,cD,bB,jL,aP,dq,ie];refine⟨rfl,?_⟩)
  refine⟨by exact Int.ne_of_gt i,?_⟩;refine aS (uR M.1 M.2) ?_
  (dsimp only[bB,cm,bq,aF,aK,Qa,aM,aB,aA];refine⟨rfl,?_⟩)
  refine⟨by exact Int.ne_of_gt i,by exact zb1 s rfl,f _ ?_⟩;rw[cellF,Y8 (by exact Kj.mp i)]
 ·exact f 0<|by rw[cellF,Y7 (by exact λq=>i<|Kj.mpr q)]
end
section
variable{C:Cx}{mg mb:Jq->Option Jf}{n:Nat}{Q:D->Bool->Prop}{X:DX}
theorem qU{L:Type}{t:List (List L)}(R:Rect t h w)(g:L->D):dsub (.list (t.map λr=> .list (r.map g))) (.int 0)=Ja (.list ((rowAt t 0).map g)):=gr (j:=0) (by rw[Qu,(R.at_ R.h1).1];rfl)
theorem wD(e:Env1 C G1 mg mb){q:Type}{t:List (List q)}(R:Rect t h w)(g:q->D)(k:Q (.list ((allF h w).map dP)) Jc):aR (aO C (n+1)) "_law_all" [(.list (t.map λr=> .list (r.map g)),b)] Q X:=by
 refine e.fn fS (by simp[tab]) rfl λl u P PX F=> ?_;dsimp only[fS];dsimp only[br,ci,bD];have U:=R.h8;have d:=R.w8;have s:h*w<=8*8:=Yl U d;refine aZ ?_
 (dsimp only[bv,fsts,dnew,aE,aI,aX,aU,bq,aF,aK,Qa,aM,aB,aA];refine⟨by decide,?_⟩)
 refine dK rfl ?_
 (dsimp only[fsts,aC,aH,aW,aE,aI,aU,bj,bU,bk,bq,eA,eP,bV,aD,aG,Qa,aJ,aB,aA,aL,cg,cD];refine⟨rfl,?_⟩)
 rw[Qd,R.len];refine⟨⟨by exact zim _,by exact zip' U⟩,?_⟩;refine dp (λi L=>∃v c,L=(Nb "_law_table" c (.list<|t.map λr=> .list (r.map g))<|Nb "_law_found" Jc (.list<|(allF i w).map dP)<|No "_law_row" v<|[])) ⟨_,_,rfl⟩ ?_ ?_
 ·rintro j L H ⟨v,c,rfl⟩ K m;dsimp only[b5,aK,Qa,aM,aA,aB,bK];refine aZ ?_;dsimp only[bl,aD,aG,Qa,aB,aA,aL,bt];refine bY rfl ?_
  (dsimp only[fsts,fy,tgl,dnew,aC,aH,aW,aE,aI,aU,bj,bU,bk,eA,eP,bV,aP,aN,aD,aG,Qa,aB,aA,aL];refine⟨rfl,?_⟩)
  refine aS (qU R g) ?_;dsimp only[cg,cD];rw[Qd,(R.at_ R.h1).2];refine⟨⟨by exact zim _,by exact zip' d⟩,bP (λ(c:Nat)=> .tup [.int j,.int c]) (λc Z K k=> ?_) ?_⟩
  ·dsimp only[bp,cr,b5,aM,Qa,aK,aB,aA,bK];dsimp only[elD]
   (dsimp only[bR,fsts,dtup,aC,aH,aY,aW,aE,aI,aX,aU,aD,aJ,Qa,aG,aB,aA,aL,bB,bk];refine⟨by decide,?_⟩)
   exact k
  ·dsimp only[bH];rw[tc,cH _ fb];dsimp only[aA,bq,aF,aK,Qa,aB];refine⟨?_,?_⟩
   ·rw[Qd,gI];refine dX<|Qq (Yl (show j+1<=8 by exact zle H U) d) (by decide)
   ·exact m _ ⟨_,_,rfl⟩
 ·rintro L ⟨v,c,rfl⟩;refine cK ?_
  (dsimp only[b8,aK,Qa,aM,aB,aA,aG,aJ,aL,bC];refine⟨rfl,?_⟩)
  exact F.qr k
end
section
variable{C:Cx}{mg mb:Jq->Option Jf}{n:Nat}{Q:D->Bool->Prop}{X:DX}
def placesF(ns:List Int)(h w:Nat):List (Nat×Nat):=((Qc (h*w)).filter λ(k:Nat)=>decide ((mixF ns (80+k)).fmod 5>(mixF ns 6).fmod 5-1)).map λk=>(allF h w)[k]?.getD (0,0)
theorem tW(e:Env1 C G1 mg mb){ns:List Int}(s:ns.length<=63)(R:Rect t h w)(k:Q (.list ((placesF ns h w).map dP)) Jc):aR (aO C (n+2)) "_law_places" [(.scr ns,b),(dT t,b')] Q X:=by
 refine e.fn d9 (by simp[tab]) rfl λl c P PX g=> ?_;dsimp only[d9];dsimp only[br,ci,bD];have m:h*w<=8*8:=Yl R.h8 R.w8;refine aZ ?_
 (dsimp only[bl,aN,aQ,flags,aC,aH,aW,aE,aI,aU,aF,bk,aD,aG,Qa,aJ,aB,aA,aL,ie,bH];refine⟨rfl,?_⟩)
 refine g.hc<|eB e s ?_
 (dsimp only[dq,cT,bq,aF,aK,Qa,aM,aB,aA];refine⟨by decide,?_⟩)
 refine aZ ?_
 (dsimp only[aQ,flags,aC,aH,aW,aE,aI,aU,aD,aG,Qa,aJ,aB,aA,aL,bt,aT,bH,bZ,bE];refine⟨rfl,?_⟩)
 refine g.hc<|wD e R D.int ?_;dsimp only[aA,bt,bq,aF,aK,Qa,aM,aB];refine b0 ?_;refine cG rfl ?_
 (dsimp only[fsts,aC,aH,aW,aE,aI,aU,bj,bU,bk,eA,eP,bV,aD,aG,Qa,aA,aB,aL,cg,cD];refine⟨rfl,?_⟩)
 rw[Qd,gI];refine⟨⟨by exact zim _,by exact zip' m⟩,fx (λk=>dP<|(allF h w)[k]?.getD (0,0)) (λ(k:Nat)=>decide<|(mixF ns<|80+k).fmod 5>(mixF ns 6).fmod 5-1) (λi V=> ?_) ?_⟩
 ·dsimp only[bp,cr,b5,aM,Qa,aK,aB,aA,bK];refine⟨λT Y=> ?_,λo0 K k=> ?_⟩
  ·dsimp only[tstD]
   (dsimp only[bo,bM,aD,aJ,Qa,aG,aB,aA,aL,bl,aN,aQ,flags,aC,aH,aW,aE,aI,aU,bB,cm,aF,bk,ie,bH];refine⟨rfl,?_⟩)
   refine g.hc<|eB e s ?_
   (dsimp only[dq,j0];refine⟨by decide,?_⟩)
   exact Y
  ·dsimp only[elD];dsimp only[aP,aD,aJ,Qa,aG,aB,aA,aL,bt];refine aS (gr (v:=dP<|(allF h w)[i]?.getD (0,0))<|by rw[Qu,Qf (by rw[gI];exact V)];rfl) ?_;exact k
 ·dsimp only[aF];rw[placesF,Qx] at k;exact g.qr k
theorem zf(e:Env1 C G1 mg mb)(R:Rect t h w)(k:Q (dI (csF t w)) Jc):aR (aO C (n+1)) "_law_column_sums" [(dT t,b)] Q X:=by
 refine e.fn cx (by simp[tab]) rfl λl u P PX g=> ?_;dsimp only[cx];dsimp only[br,ci,bD];have d:=R.w8;refine b0 ?_;refine bY rfl ?_
 (dsimp only[fsts,aC,aH,aW,aE,aI,aU,bj,bU,bk,eA,eP,bV,aP,aN,aD,aG,Qa,aA,aL];refine⟨rfl,?_⟩)
 refine aS (nP R) ?_;dsimp only[cg,cD];rw[R.len0];refine⟨⟨by exact zim _,by exact zip' d⟩,bP (λ(c:Nat)=> .int ((t.map λr=>r[c]?.getD 0).sum)) (λc Z K k=> ?_) ?_⟩
 ·dsimp only[bp,cr,b5,aM,Qa,aK,aB,aA,bK];dsimp only[elD]
  (dsimp only[bj,f5,aC,aE,bV];refine⟨rfl,?_⟩)
  refine bY rfl ?_;dsimp only[fsts,de,aC,aH,aW,aE,aI,aU,c7,aD,aJ,Qa,aG,aA,aB,aL,bt,bH,cU];refine bS dI (λr=> .int (r[c]?.getD 0)) (λr T K k=> ?_) ?_
  ·dsimp only[bp,cr,b5,aM,Qa,aK,aB,aA,bK];dsimp only[elD];dsimp only[aP,aD,aJ,Qa,aG,aB,aA,aL,bt];refine aS (dD<|by rw[R.row r T];exact Z) ?_;exact k
  ·refine eD (fO _ _) ?_;exact k
 ·dsimp only[aF];rw[csF,dI,Qx] at k;exact g.qr k
theorem xX(e:Env1 C G1 mg mb)(R:Rect t h w){ps:List (Nat×Nat)}(k:Q (viewF t (hidF ps) h w) Jc):aR (aO C (n+2)) "_law_view" [(dT t,b),(.list (ps.map dP),b')] Q X:=by
 refine e.fn fh (by simp[tab]) rfl λl u P PX g=> ?_;dsimp only[fh];dsimp only[br,ci,bD];have U:=R.h8;have d:=R.w8;refine aZ ?_
 (dsimp only[bv,fsts,dnew,aE,aI,aX,aU,bq,aF,aK,Qa,aM,aB,aA];refine⟨by decide,?_⟩)
 refine dK rfl ?_
 (dsimp only[fsts,aC,aH,aW,aE,aI,aU,bj,bU,bk,bq,eA,eP,bV,aD,aG,Qa,aJ,aB,aA,aL,cg,cD];refine⟨rfl,?_⟩)
 rw[R.lenD];refine⟨⟨by exact zim _,by exact zip' U⟩,?_⟩;refine dp (λi L=>∃v,L=(Nb "_law_table" b (dT t)<|Nb "_law_places_here" b' (.list<|ps.map dP)<|Nb "_law_cells" Jc (dC<|cellsF t (hidF ps) i w)<|No "_law_row" v<|[])) ⟨_,rfl⟩ ?_ ?_
 ·rintro j L H ⟨v,rfl⟩ K m;dsimp only[b5,aK,Qa,aM,aA,aB,bK];refine hM ?_
  (dsimp only[aG,Qa,aB,aA,aL,de,oY,aK];refine⟨trivial,?_⟩)
  refine bY rfl ?_
  (dsimp only[fsts,aC,aH,aW,aE,aI,aU,bj,bU,bk,eA,eP,bV,aP,aN,aD,aG,Qa,aB,aA,aL];refine⟨rfl,?_⟩)
  refine aS (nP R) ?_;dsimp only[cg,cD];rw[R.len0];refine⟨⟨by exact zim _,by exact zip' d⟩,bP (λ(c:Nat)=>dO<|cellO t (hidF ps) j c) (λc Z K k=> ?_) ?_⟩
  ·dsimp only[bp,cr,b5,aM,Qa,aK,aB,aA,bK];dsimp only[elD];dsimp only[aP,bj,jb,aC,aE,bV,bo,bM,zk,aD,aJ,Qa,aG,aB,aA,aL,bR,fsts,dtup,aH,aY,aI,aX,bv,dnew,aW,aU,fM,bk,bt];refine aS (g6 R H) ?_;dsimp only[bt];refine aS (iI R H Z) ?_
   (dsimp only[bB,bk];refine⟨by decide,rfl,by decide,?_⟩)
   rw[ya];refine⟨⟨rfl,eT dP (λp=>rfl) ps⟩,?_⟩;change K (dO<|cond (hidF ps j c) Jb (Ja<|cell t j c)) Jb at k;change dOD _ (dsub (.list [.int (cell t j c),.none])<|.int (if hidF ps j c=Jc then 1 else 0))
   revert k
   cases hidF ps j c with
   |true=>exact λk=>k
   |false=>exact λk=>k
  ·refine⟨rfl,rfl,?_,m _ ⟨Ja (.int j,Jc),?_⟩⟩
   ·rw[Qd,cellsF,Qd,Qr];exact cZ<|by exact zll H<|zb2 U rfl
   ·rw[oL];rfl
 ·rintro L ⟨v,rfl⟩;refine cK ?_
  (dsimp only[dS,c9,aY,dZ,aX,oY,b8,aK,Qa,aM,aB,aA,aG,aJ,aL,bC];refine⟨rfl,?_⟩)
  refine bY rfl ?_;dsimp only[fsts,aC,aH,aW,aE,aI,aU,c7,aD,aG,Qa,aJ,aB,aA,aL,bt,bH,cU];refine bS dI (λr=> .int r.sum) (λr T K k=> ?_) ?_
  ·dsimp only[bp,cr,b5,aM,Qa,aK,aA,aB,bK];dsimp only[elD]
   (dsimp only[bj,f5,aC,aE,bV,aD,aJ,Qa,aG,aA,aB,aL,de];refine⟨rfl,?_⟩)
   refine eD (cp _) ?_;exact k
  ·refine⟨rfl,?_⟩;refine sU ?_
   (dsimp only[aQ,flags,aC,aH,aW,aE,aI,aU,aD,aG,Qa,aJ,aB,aA,aL,bt,aT,bH,bZ,bE];refine⟨rfl,?_⟩)
   refine g.hc<|zf e R ?_
   (dsimp only[aA,bt];refine⟨rfl,by decide,?_⟩)
   rw[viewF,rsF,dI,Qx] at k;exact g.qr k
end
section
variable{C:Cx}{mg mb:Jq->Option Jf}{n:Nat}{Q:D->Bool->Prop}{X:DX}
theorem iH(e:Env1 C G1 mg mb)(k:Q (.bool (decide (i>=0))) Jc):aR (aO C (n+1)) "is_count" [(.int i,b)] Q X:=by
 refine e.fn dY (by simp[tab]) rfl λc u P PX g=> ?_;dsimp only[dY];dsimp only[br,ci,bD];refine b0 ?_
 (dsimp only[d8,bo,aF,aN,aD,aG,Qa,aA,aL,mO,cA,bM,f8,zI,lU,mW,zK];refine⟨rfl,rfl,?_⟩)
 exact g.qr k
theorem yT(e:Env1 C G1 mg mb)(k:Q (.bool (gridF l)) Jc):aR (aO C (n+1)) "is_grid" [(dL l,b)] Q X:=by
 refine e.fn gS (by simp[tab]) rfl λc u P PX g=> ?_;dsimp only[gS];dsimp only[br,ci,bD];unfold gridF at k;refine dJ ?_
 (dsimp only[dW,bM,aA,cA,mZ,bX,mW,bj,bU,aC,aE,bV,aD,aG,Qa,aL,cg,cD,aN,nA,f8,rT,lU,fN,aB];refine⟨rfl,rfl,?_⟩)
 dsimp only[most];dsimp only[zb,nA];rw[Qd];have no:¬ (1<=l.length/\l.length<=8)->Q (.bool Jd) Jc:=λh=>by rw[Y5 h] at k;exact k
 refine cB (λN=> ?_) λN=> ?_
 ·refine jQ (λp=> ?_) λp=> ?_
  ·have H:1<=l.length/\l.length<=8:=by exact⟨Kk.mp N,Kk.mp p⟩
   rw[Y4 H,Yt] at k;clear no;have W:l[0]? =Ja (rowAt l 0):=by rw[rowAt,Qf (by exact Kk.mp N)];rfl
   have s:dsub (dL l) (.int 0)=Ja (.list<|rowAt l 0):=gr (j:=0) (by rw[Qu,W];rfl);refine dJ ?_
   (dsimp only[dW,bM,aA,cA,mZ,bX,mW,bj,bU,aC,aE,bV,aP,aN,aD,aG,Qa,aL,nA,kL];refine⟨rfl,?_⟩)
   refine bY rfl ?_;dsimp only[fsts,de,aC,aH,aW,aE,aI,aU,c7,aD,aG,Qa,aA,aL,bt,bH,cU];refine bS D.list (λo0=> .bool Jc) (λr T K k=> ?_) ?_
   ·dsimp only[bp,cr,b5,aM,Qa,aK,aB,aA,bK];dsimp only[elD]
    (dsimp only[f8,aD,aJ,Qa,aG,aB,aA,aL,rT,lU];refine⟨rfl,?_⟩)
    exact k
   ·refine mB (eX _ _) ?_;rw[show(KQ (λo0=>Jc) l).all id=Jc from by rw[ly];exact Qy.mpr λo0 o0=>rfl]
    (dsimp only[fN,aB];refine⟨rfl,?_⟩)
    refine aS s ?_;dsimp only[cg,cD];dsimp only[most];dsimp only[zb,nA];have no:¬ (1<=(rowAt l 0).length/\(rowAt l 0).length<=8)->Q (.bool Jd) Jc:=λh=>by rw[Y5 h] at k;exact k
    refine cB (λN=> ?_) λN=> ?_
    ·refine jQ (λp=> ?_) λp=> ?_
     ·rw[Y4 (by exact⟨Kk.mp N,Kk.mp p⟩),Yt] at k;refine b0 ?_
      (dsimp only[bj,kL,aF,aC,aE,bV];refine⟨rfl,?_⟩)
      refine bY rfl ?_;dsimp only[fsts,de,aC,aH,aW,aE,aI,aU,c7,aD,aG,Qa,aA,aL,bt,bH,cU];refine bS D.list (λr=> .bool (decide<|r.length=(rowAt l 0).length)) (λr T K k=> ?_) ?_
      ·dsimp only[bp,cr,b5,aM,Qa,aK,aB,aA,bK];dsimp only[elD]
       (dsimp only[bo,dy,deq,bj,bU,aC,aE,bV,aP,aN,aD,aJ,Qa,aG,aA,aB,aL,cj,cg,cD];refine⟨rfl,rfl,?_⟩)
       refine aS s ?_
       (dsimp only[cg,cD];refine⟨⟨rfl,rfl⟩,?_⟩)
       rw[show decide ((r.length:Int)=((rowAt l 0).length:Int))=decide (r.length=(rowAt l 0).length) from decide_eq_decide.mpr (by exact Wr)];exact k
      ·refine mB (eX _ _) ?_;rw[ly];exact g.qr k
     ·refine b0 ?_;dsimp only[cq,aF];exact g.qr<|no (by exact λq=>p<|Kk.mpr q.2)
    ·refine b0 ?_;dsimp only[cq,aF];exact g.qr<|no (by exact λq=>N<|Kk.mpr q.1)
  ·refine b0 ?_;dsimp only[cq,aF];exact g.qr<|no (by exact λq=>p<|Kk.mpr q.2)
 ·refine b0 ?_;dsimp only[cq,aF];exact g.qr<|no (by exact λq=>N<|Kk.mpr q.1)
theorem v0(e:Env1 C G1 mg mb)(R:Rect t h w)(k:Q (.bool Jc) Jc):aR (aO C (n+1)) "is_grid" [(dC t,b)] Q X:=by
 rw[zE];exact yT e<|by rw[R.grid];exact k
def NN(t:List (List Int)):Prop:=∀r∈t,∀i∈r,0<=i
end
section
variable{C:Cx}{mg mb:Jq->Option Jf}{n:Nat}{Q:D->Bool->Prop}{X:DX}
theorem ot(e:Env1 C G1 mg mb)(R:Rect t h w)(k:Q (.list ((allF h w).map dP)) Jc):aR (aO C (n+1)) "places_of" [(dC t,b)] Q X:=by
 refine e.fn fi (by simp[tab]) rfl λl f P PX g=> ?_;dsimp only[fi];dsimp only[br,ci,bD];have U:=R.h8;have d:=R.w8;refine aZ ?_
 (dsimp only[bv,fsts,dnew,aE,aI,aX,aU,bq,aF,aK,Qa,aM,aB,aA];refine⟨by decide,?_⟩)
 refine dK rfl ?_
 (dsimp only[fsts,aC,aH,aW,aE,aI,aU,bj,bU,bk,bq,eA,eP,bV,aD,aG,Qa,aJ,aB,aA,aL,cg,cD];refine⟨rfl,?_⟩)
 rw[Qd,R.len];refine⟨⟨by exact zim _,by exact zip' U⟩,?_⟩;refine dp (λi L=>∃u v,L=(Nb "grid" b (dC t)<|Nb "found" Jc (.list<|(allF i w).map dP)<|No "row" u<|No "column" v<|[])) ⟨_,_,rfl⟩ ?_ ?_
 ·rintro j L H ⟨u,v,rfl⟩ K m;dsimp only[b5,aK,Qa,aM,aB,aA,bK];refine dK rfl ?_
  (dsimp only[fsts,aC,aH,aW,aE,aI,aU,bj,bU,bk,bq,eA,eP,bV,aP,aN,aD,aG,Qa,aJ,aB,aA,aL];refine⟨rfl,?_⟩)
  refine aS (fR R) ?_;dsimp only[cg,cD];rw[Qd,(R.at_ R.h1).2];refine⟨⟨by exact zim _,by exact zip' d⟩,?_⟩;refine dp (λi L=>∃v,L=(Nb "grid" b (dC t)<|Nb "found" Jc (.list<|(allF j w++(Qc i).map λc=>(j,c)).map dP)<|Nb "row" Jc (.int j)<|No "column" v<|[])) ⟨v,by rw[List.range_zero,WD,QI]⟩ ?_ ?_
  ·rintro i L V ⟨v,rfl⟩ K m;dsimp only[b5,aK,Qa,aM,aA,aB,bK];refine hM ?_
   (dsimp only[aG,Qa,aB,aA,aL,de,dS,c9,aY,dZ,aX,b8,aK,eY];refine⟨trivial,by decide,rfl,?_⟩)
   refine⟨?_,m _ ⟨Ja (.int i,Jc),?_⟩⟩
   ·rw[Qd,QD,gI,Qd,Qr];have:=Yl (show j<=8 by exact KJ<|zll H U) d;exact cZ<|by exact zb1 (Kg this<|KJ (zll V d)) rfl
   ·rw[<-d4,<-Ks,QC (l₂:=[(j,i)])];rfl
  ·rintro L ⟨v,rfl⟩;exact m _ ⟨_,_,rfl⟩
 ·rintro L ⟨u,v,rfl⟩;refine cK ?_
  (dsimp only[b8,aK,Qa,aM,aB,aA,aG,aJ,aL,bC];refine⟨rfl,?_⟩)
  exact g.qr k
theorem qz(e:Env1 C G1 mg mb)(R:Rect c h w){r s:List Int}(z:r.length=h)(E:s.length=w)(k:Q (.tup [dI ((Qc h).map (r1F c r)),dI ((Qc w).map (r2F c s))]) Jc):
  aR (aO C<|n+1) "rests_of" [(.tup [dC c,dI r,dI s],b)] Q X:=by
 refine e.fn fU (by simp[tab]) rfl λl u P PX g=> ?_;dsimp only[fU];dsimp only[br,ci,bD];have U:=R.h8;have d:=R.w8;refine d3 rfl ?_;dsimp only[aD,aG,Qa,aJ,aB,aA,aL,bI,tgl,bw,bC,bz,bA,aT,i4,iG,iO,iY,gG,jt,iC,eh,iP,iJ,v9,aK,aM,bK];refine aZ ?_;refine bY rfl ?_
 (dsimp only[fsts,aC,aH,aW,aE,aI,aU,bj,bU,bk,eA,eP,bV,aD,aG,Qa,aJ,aB,aA,aL,cg,cD];refine⟨rfl,?_⟩)
 rw[Qd,z];refine⟨⟨by exact zim _,by exact zip' U⟩,bP (λk=> .int (r1F c r k)) (λi V K k=> ?_) ?_⟩
 ·dsimp only[bp,cr,b5,aM,Qa,aK,aA,aB,bK];dsimp only[elD];dsimp only[bl,bj,f5,aC,aE,bV,aP,aD,aJ,Qa,aG,aA,aB,aL,bt];refine aS (dD<|by exact zq V z.symm) ?_
  (dsimp only[bB,cT];refine⟨rfl,?_⟩)
  refine cG rfl ?_;dsimp only[fsts,de,aC,aH,aW,aE,aI,aU,c7,aP,aD,aJ,Qa,aG,aA,aB,aL,bt];refine aS (ew R V) ?_;dsimp only[cU,bt,bH];refine cY dO dO (λo=>o.isSome) (λo a=> ?_) ?_
  ·dsimp only[bp,cr,b5,aM,Qa,aK,aB,aA,bK];refine⟨λT Y=> ?_,λo0 K k=> ?_⟩
   ·dsimp only[tstD];dsimp only[et,bM,aD,aJ,Qa,aG,aB,aA,aL];refine⟨(cJ o).1,?_⟩;rw[(cJ o).2,Bool.not_not];exact Y
   ·dsimp only[elD];dsimp only[aD,aJ,Qa,aG,aB,aA,aL];rw[show tg0 (dO o) (Ja ["count"])=Jb from by rcases o with⟨⟩<;>rfl];exact k
  ·rw[show((rowAt c i).filter λo=>o.isSome).map dO=((rowAt c i).filter λo=>(id o).isSome).map (λo=>dO<|id o) from rfl,kW];exact k
 ·dsimp only[bq,aF,aK,Qa,aM,aB,aA];refine aZ ?_
  (dsimp only[bv,fsts,dnew,aE,aI,aX,aU,bq,aF,aK,Qa,aM,aB,aA];refine⟨by decide,?_⟩)
  refine dK rfl ?_
  (dsimp only[fsts,aC,aH,aW,aE,aI,aU,bj,bU,bk,bq,eA,eP,bV,aD,aG,Qa,aJ,aB,aA,aL,cg,cD];refine⟨rfl,?_⟩)
  rw[Qd,E];refine⟨⟨by exact zim _,by exact zip' d⟩,?_⟩;refine dp (λi L=>∃v,L=(Nb "view" Jd (.tup [dC c,dI r,dI s])<|Nb "cells" Jd (dC c)<|Nb "rows" Jd (dI r)<|Nb "columns" Jd (dI s)<|Nb "found" Jc (.list<|(Qc h).map λk=> .int (r1F c r k))<|Nb "others" Jc (dI<|(Qc i).map (r2F c s))<|No "k" v<|[])) ⟨_,rfl⟩ ?_ ?_
  ·rintro j L H ⟨v,rfl⟩ K m;dsimp only[b5,aK,Qa,aM,aA,aB,bK];refine hM ?_
   (dsimp only[aG,Qa,aB,aA,aL,de,nu,aK,bl,bj,f5,aC,aE,bV,aP,aD,bt];refine⟨trivial,?_⟩)
   refine aS (dD<|by exact zq H E.symm) ?_
   (dsimp only[bB,cT];refine⟨rfl,?_⟩)
   refine cG rfl ?_;dsimp only[fsts,de,aC,aH,aW,aE,aI,aU,c7,aD,aG,Qa,aB,aA,aL,bt,bH,cU];refine cY dR (λZ=>dO<|Z[j]?.getD Jb) (λZ=>(Z[j]?.getD Jb).isSome) (λZ f=> ?_) ?_
   ·dsimp only[bp,cr,b5,aM,Qa,aK,aB,aA,bK];refine⟨λT Y=> ?_,λo0 K k=> ?_⟩
    ·dsimp only[tstD];dsimp only[et,bM,aP,aD,aJ,Qa,aG,aA,aB,aL];refine aS (hA<|by rw[R.row Z f];exact H) ?_;refine⟨(cJ _).1,?_⟩;rw[(cJ _).2,Bool.not_not];exact Y
    ·dsimp only[elD];dsimp only[aP,aD,aJ,Qa,aG,aA,aB,aL,bt];refine aS (hA<|by rw[R.row Z f];exact H) ?_;rw[show∀o t,tg0 (dO o) t=Jb from λo t=>by rcases o with⟨⟩<;>rfl];exact k
   ·refine eD (kW _ _) ?_;refine⟨rfl,rfl,?_⟩;refine⟨?_,m _ ⟨Ja (.int j,Jc),?_⟩⟩
    ·rw[Qd,Qd,Qr];exact cZ<|by exact zll H<|zb2 d rfl
    ·rw[<-d4,pS];rfl
  ·rintro L ⟨v,rfl⟩;refine cK ?_
   (dsimp only[dS,c9,aY,dZ,aX,b8,aK,Qa,aM,aB,aA,aG,aJ,aL,bC];refine⟨rfl,rfl,by decide,?_⟩)
   rw[dI,Qx] at k;exact g.qr k
end
structure VOK(c:List (List (Option Int)))(r s:List Int)(h w:Nat):Prop where
 R:Rect c h w
 hr:r.length=h
 hs:s.length=w
 nc:∀row∈c,∀i,Ja i∈row->0<=i
 nr:∀i∈r,0<=i
 ns:∀i∈s,0<=i
 n1:∀k,k<h->0<=r1F c r k
 n2:∀k,k<w->0<=r2F c s k
 eq:((Qc h).map (r1F c r)).sum=((Qc w).map (r2F c s)).sum
theorem pK{f:Nat->Int}(N:1<=n)(h:∀k,k<n->0<=f k):(Qc n).map f≠ []/\0<=lmin ((Qc n).map f):=by
 have U:(Qc n).map f≠ []:=by
  intro q;have:=Ub Ys q;rw[Qd,Qr,WJ] at this;exact Yj N this
 refine⟨U,?_⟩;obtain⟨a,T,e⟩:=Qi.mp (eO U).1;rw[<-e];exact h a<|Qh.mp T
section
variable{C:Cx}{mg mb:Jq->Option Jf}{n:Nat}{Q:D->Bool->Prop}{X:DX}
theorem k4(e:Env1 C G1 mg mb){l:List Int}(T:l.length=m)(o:∀i∈l,0<=i)(k:Q (.bool Jc) Jc):aR (aO C (n+2)) "are_sums" [(dI l,b),(.int m,b')] Q X:=by
 refine e.fn fX (by simp[tab]) rfl λc u P PX g=> ?_;dsimp only[fX];dsimp only[br,ci,bD];refine b0 ?_
 (dsimp only[d8,bj,kL,aF,aC,aE,bV,bo,bM,dy,deq,aD,aG,Qa,aA,aB,aL,bU,cj,cg,cD,f8,rT,lU];refine⟨rfl,rfl,⟨rfl,rfl⟩,?_⟩)
 rw[Qd,T,Y4 rfl]
 (dsimp only[aA];refine⟨rfl,?_⟩)
 refine bY rfl ?_;dsimp only[fsts,de,aC,aH,aW,aE,aI,aU,c7,aD,aG,Qa,aB,aA,aL,bt,bH,cU];refine bS D.int (λi=> .bool (decide<|i>=0)) (λi h K k=> ?_) ?_
 ·dsimp only[bp,cr,b5,aM,Qa,aK,aB,aA,bK];dsimp only[elD]
  (dsimp only[aQ,flags,aC,aH,aW,aE,aI,aU,aD,aJ,Qa,aG,aB,aA,aL,bB,aF,bk,bH];refine⟨rfl,?_⟩)
  exact g.hc<|iH e k
 ·refine mB (eX _ _) ?_;rw[ly,Qy.mpr λi h=>Y4 (o i h)];exact g.qr k
theorem uf(e:Env1 C G1 mg mb)(V:VOK c r s h w)(k:Q (.bool Jc) Jc):aR (aO C (n+3)) "is_view" [(.tup [dC c,dI r,dI s],b)] Q X:=by
 refine e.fn gR (by simp[tab]) rfl λl u P PX g=> ?_;dsimp only[gR];dsimp only[br,ci,bD];refine dJ ?_
 (dsimp only[dW,bM,aA,cA,aQ,flags,aC,aH,aE,aI,aP,aN,aD,aG,Qa,aJ,aB,aL,bI,tgl,bw,bC,bz,bA,cz,ce,bt,aT,bo,ti,deq,bj,bU,cj,bV,pt,aY,aX,cD,f8,pM,lU,fN];refine⟨rfl,rfl,⟨rfl,rfl⟩,?_⟩)
 refine jQ (λo0=> ?_) λh=>absurd rfl h;refine⟨rfl,?_⟩;refine g.hc<|v0 e V.R ?_;dsimp only[bM,fN,aB];refine dK rfl ?_;dsimp only[fsts,aC,aH,aW,aE,aI,aU,c7,aP,aN,aD,aG,Qa,aJ,aB,aA,aL,bI,tgl,bw,bC,bz,bA,cz,ce,bt,bH,i4,iG,iO,iY,gG,jt,iC,eh,iP,iJ,cU];refine dl dR (λo0 L=>∃v,L=(Nb "thing" Jd (.tup [dC c,dI r,dI s])<|No "row" v<|No "rows" Jb<|No "columns" Jb<|[])) _ _ ⟨_,rfl⟩ ?_ ?_
 ·rintro j Z L f ⟨v,rfl⟩ K E;have f:Z∈c:=QJ f;dsimp only[bC,b5,aK,Qa,aM,aB,aA,bK];refine dJ ?_
  (dsimp only[cA,bM,bj,kL,aC,aE,bV];refine⟨rfl,?_⟩)
  refine bY rfl ?_;dsimp only[fsts,de,aC,aH,aW,aE,aI,aU,c7,aD,aG,Qa,aJ,aB,aA,aL,bt,bH,cU];refine bS dO (λo0=> .bool Jc) (λo d K k=> ?_) ?_
  ·dsimp only[bp,cr,b5,aM,Qa,aK,aB,aA,bK];dsimp only[elD];dsimp only[dW,aQ,flags,aC,aH,aW,aE,aI,aU,aD,aJ,Qa,aG,aB,aA,aL,dm,bM];refine⟨(cJ o).1,?_⟩;rw[(cJ o).2]
   induction o with
   |none=>exact k
   |some i=>
    refine⟨rfl,?_⟩;refine g.hc<|iH e ?_;rw[Y4 (V.nc Z f i d)];exact k
  ·refine mB (eX _ _) ?_;rw[ly,Qy.mpr λo0 o0=>rfl];dsimp only[fN,aB];exact E _ ⟨_,rfl⟩
 ·rintro L ⟨v,rfl⟩;refine ip ?_;refine dJ ?_
  (dsimp only[dW,bM,aA,cA,aQ,flags,aC,aH,aE,aI,bj,bU,aF,bV,aP,aN,aD,aG,Qa,aJ,aB,aL,cz,ce,bI,tgl,bw,bC,bz,bA,jl,bt,aT,cg,cD,jo];refine⟨rfl,rfl,?_⟩)
  rw[Qd,V.R.len];refine g.hc<|k4 e V.hr V.nr ?_
  (dsimp only[bM,fN,aB];refine⟨rfl,rfl,?_⟩)
  refine aS (fR V.R) ?_;dsimp only[cg,cD];rw[Qd,(V.R.at_ V.R.h1).2];refine g.hc<|k4 e V.hs V.ns ?_;dsimp only[bM,fN,aB];refine d3 rfl ?_
  (dsimp only[aQ,flags,aC,aH,aW,aE,aI,aU,aD,aG,Qa,aJ,aB,aA,aL,bI,tgl,bw,bC,bz,bA,aT,bH,bZ,bE];refine⟨rfl,?_⟩)
  refine g.hc<|qz e V.R V.hr V.hs ?_;dsimp only[aA,bI,tgl,bw,bC,bz,bA,aB,aF,bq,jH,aK,Qa,aM,bK];refine b0 ?_
  (dsimp only[d8,bo,aF,dy,deq,bj,f5,aC,aE,bV,aD,aG,Qa,aJ,aA,aB,aL,de,cj,bM,aN,im,n8,mO];refine⟨rfl,?_⟩)
  rw[cp,cp];dsimp only[zQ];have B:=pK V.R.h1 V.n1;have m:=pK V.R.w1 V.n2;refine⟨B.1,?_⟩;rw[Y4 (show lmin ((Qc h).map (r1F c r))>=0 from B.2)]
  (dsimp only[aA];refine⟨rfl,?_⟩)
  refine⟨m.1,?_⟩;rw[Y4 (show lmin ((Qc w).map (r2F c s))>=0 from m.2)]
  (dsimp only[aA];refine⟨rfl,rfl,⟨rfl,rfl⟩,?_⟩)
  rw[Y4 V.eq];exact g.qr k
theorem h9(e:Env1 C G1 mg mb)(V:VOK c r s h w)(k:Q .none Jc):aR (aO C (n+4)) "need_view" [(.tup [dC c,dI r,dI s],b)] Q X:=by
 refine e.fn e8 (by simp[tab]) rfl λl u P PX g=> ?_;dsimp only[e8];dsimp only[br,ci,bD];refine dJ ?_
 (dsimp only[cA,bM,aQ,flags,aC,aH,aE,aI,aD,aG,Qa,aA,aL,bI,tgl,bw,bC,bz,bA,aB,aT];refine⟨rfl,?_⟩)
 refine g.hc<|uf e V ?_;dsimp only[bM,fN,aB];exact g.qn k
end
theorem fZ{L:Type}{f:L->Int}{l:List L}(h:∀a∈l,0<=f a):0<=(l.map f).sum:=by
 induction l with
 |nil=>exact QV 0
 |cons a l i=>rw[Qw,QH];exact Int.add_nonneg (h a (.head _)) (i λb R=>h b (.tail _ R))
theorem lX{L:Type}(f g:L->Int)(l:List L):(l.map f).sum-(l.map g).sum=(l.map λa=>f a-g a).sum:=by
 induction l with
 |nil=>rfl
 |cons a l i=>rw[Qw,Qw,Qw,QH,QH,QH,<-i];exact zr14 _ _ _ _
theorem lO{L:Type}(f g:L->Int)(l:List L):(l.map f).sum+(l.map g).sum=(l.map λa=>f a+g a).sum:=by
 induction l with
 |nil=>rfl
 |cons a l i=>rw[Qw,Qw,Qw,QH,QH,QH,<-i];exact zr8 _ _ _ _
theorem jh{L:Type}(g:L->Option Int)(l:List L):(l.filterMap g).sum=(l.map λa=>(g a).getD 0).sum:=by
 induction l with
 |nil=>rfl
 |cons a l W=>
  induction h:g a with
  |none=>rw[List.filterMap_cons_none h,Qw,QH,h,W];exact(Wj _).symm
  |some i=>rw[List.filterMap_cons_some h,Qw,QH,QH,h,W];rfl
theorem gO{L:Type}(l:List L):(l.map λo0=>(0:Int)).sum=0:=by
 induction l with
 |nil=>rfl
 |cons a l i=>rw[Qw,QH,i];rfl
theorem mG(f:Nat->Nat->Int)(h w:Nat):((Qc h).map λr=>((Qc w).map λc=>f r c).sum).sum=((Qc w).map λc=>((Qc h).map λr=>f r c).sum).sum:=by
 induction h with
 |zero=>exact(gO _).symm
 |succ h i=>
  rw[List.range_succ,QC,Wf,i];have:(λc=>((Qc h++[h]).map λr=>f r c).sum)=λc=>((Qc h).map λr=>f r c).sum+f h c:=by
   funext c;rw[QC,Wf];show _+(f h c+0)=_;rw[QW]
  rw[this,<-lO];show _+(((Qc w).map λc=>f h c).sum+0)=_;rw[QW]
theorem yv(R:Rect t h w)(n:r<h):rowAt t r=(Qc w).map (cell t r):=by
 have l:=(R.at_ n).2;refine WT (by rw[l,Qd,Qr]) λi N p=> ?_;rw[WU,Wa,cell,Qf N];rfl
theorem tN{L:Type}{t:List (List L)}(R:Rect t h w):t=(Qc h).map (rowAt t):=by
 refine WT (by rw[R.len,Qd,Qr]) λi N p=> ?_;rw[WU,Wa,rowAt,Qf N];rfl
theorem Rect.range{L:Type}(f:Nat->Nat->L)(N:1<=h)(y:h<=8)(A:1<=w)(T:w<=8):Rect ((Qc h).map λr=>(Qc w).map λc=>f r c) h w:=by
 refine⟨by rw[Qd,Qr],λr n=> ?_,N,y,A,T⟩;obtain⟨i,o0,rfl⟩:=Qi.mp n;rw[Qd,Qr]
theorem eZ{L:Type}(f:Nat->List L)(n:r<h):rowAt ((Qc h).map f) r=f r:=by
 rw[rowAt,Qu,Wk n];rfl
theorem cV{L:Type}(f:Nat->L)(h:c<w)(d:L):((Qc w).map f)[c]?.getD d=f c:=by
 rw[Qu,Wk h];rfl
def hv(t:List (List Int))(hid:Nat->Nat->Bool)(r c:Nat):Int:=cond (hid r c) (cell t r c) 0
theorem wr(t:List (List Int))(hid:Nat->Nat->Bool)(r c:Nat):cell t r c-(cellO t hid r c).getD 0=hv t hid r c:=by
 unfold cellO hv;cases hid r c with
 |true=>exact Yi _
 |false=>exact YB _
theorem uk(R:Rect t h w)(hid:Nat->Nat->Bool)(q:k<h):r1F (cellsF t hid h w) (rsF t) k=((Qc w).map λc=>hv t hid k c).sum:=by
 rw[r1F,rsF,Qu,(R.at_ q).1,cellsF,eZ _ q];show(rowAt t k).sum-_=_;rw[yv R q,WI,jh,lX]
 congr 2
 funext c;exact wr t hid k c
theorem wp{t:List (List Int)}{h w:Nat}(R:Rect t h w)(hid:Nat->Nat->Bool){k:Nat}(q:k<w):r2F (cellsF t hid h w) (csF t w) k=((Qc h).map λr=>hv t hid r k).sum:=by
 rw[r2F,csF,cV _ q,cellsF,WI,jh];have e:(t.map λr=>r[k]?.getD 0).sum=((Qc h).map λr=>cell t r k).sum:=by
  conv=>lhs;rw[tN R]
  rw[Qx];rfl
 rw[e,lX]
 congr 1
 refine Qo λr n=> ?_;show cell t r k-(((Qc w).map λc=>cellO t hid r c)[k]?.getD Jb).getD 0=_;rw[cV _ q];exact wr t hid r k
theorem wF(R:Rect t h w)(N:NN t)(hid:Nat->Nat->Bool)(n:r<h)(C:c<w):0<=hv t hid r c:=by
 unfold hv;cases hid r c with
 |true=>exact(rO R).mp N r c n C
 |false=>exact QV 0
theorem vok(R:Rect t h w)(N:NN t)(hid:Nat->Nat->Bool):VOK (cellsF t hid h w) (rsF t) (csF t w) h w:=by
 refine⟨Rect.range _ R.h1 R.h8 R.w1 R.w8,by rw[rsF,Qd];exact R.len,by rw[csF,Qd,Qr],λZ o i V=> ?_,λi V=> ?_,λi V=> ?_,λk q=> ?_,λk q=> ?_,?_⟩
 ·obtain⟨r,n,rfl⟩:=Qi.mp o;obtain⟨c,C,e⟩:=Qi.mp V;unfold cellO at e
  induction U:hid r c with
  |true=>rw[U] at e;exact ns e
  |false=>rw[U] at e;obtain rfl:=sj e;exact(rO R).mp N r c (Qh.mp n) (Qh.mp C)
 ·obtain⟨r,n,rfl⟩:=Qi.mp V;have:=fZ (f:=id) (l:=r) λa T=>N r n a T
  rwa [List.map_id] at this
 ·obtain⟨c,C,rfl⟩:=Qi.mp V;refine fZ λr n=> ?_;refine N r n _ ?_;rw[Qf (by rw[R.row r n];exact Qh.mp C)];exact KN _
 ·rw[uk R hid q];exact fZ λc C=>wF R N hid q<|Qh.mp C
 ·rw[wp R hid q];exact fZ λr n=>wF R N hid (Qh.mp n) q
 ·rw[Qo λk q=>uk R hid<|Qh.mp q,Qo λk q=>wp R hid (Qh.mp q)];exact mG _ h w
def cO(c:List (List (Option Int)))(a b:Nat):Option Int:=(rowAt c a)[b]?.getD Jb
section
variable{C:Cx}{mg mb:Jq->Option Jf}{n:Nat}{Q:D->Bool->Prop}{X:DX}
end
def psF(c:List (List (Option Int)))(h w:Nat):List (Nat×Nat):=(allF h w).filter λp=> !(cO c p.1 p.2).isSome
theorem eV{p:Nat×Nat}(D:p∈psF c h w):p.1<h/\p.2<w/\cO c p.1 p.2=Jb:=by
 obtain⟨N,Y⟩:=Qj.mp D;refine⟨(allF_mem.mp N).1,(allF_mem.mp N).2,?_⟩
 induction e:cO c p.1 p.2 with
 |none=>rfl
 |some i=>rw[e] at Y;exact ft Y
theorem mj(R:Rect c h w)(T:a<h)(v:b<w):dsub (dR (rowAt c a)) (.int b)=Ja (dO (cO c a b)):=hA<|by rw[(R.at_ T).2];exact v
noncomputable abbrev dNs(l:List Nat):D:= .list (l.map λ(k:Nat)=> .int (k:Int))
noncomputable def zF(c:List (List (Option Int))):List (List Int):=c.map λr=>r.map λo=>o.getD 0
theorem Rect.z(R:Rect c h w):Rect (zF c) h w:=by
 refine⟨by rw[zF,Qd];exact R.len,λr T=> ?_,R.h1,R.h8,R.w1,R.w8⟩;obtain⟨y,H,rfl⟩:=Qi.mp T;rw[Qd];exact R.row y H
theorem z1(R:Rect c h w)(r:List Int)(q:k<h):r[k]?.getD 0-(rowAt (zF c) k).sum=r1F c r k:=by
 unfold r1F;rw[jh,show rowAt (zF c) k=(rowAt c k).map λo=>o.getD 0 from by rw[rowAt,zF,Qu,(R.at_ q).1];rfl];rfl
theorem z2(R:Rect c h w)(s:List Int)(q:k<w):s[k]?.getD 0-(csF (zF c) w)[k]?.getD 0=r2F c s k:=by
 unfold r2F csF;rw[cV _ q,jh,zF,Qx]
 congr 2
 refine Qo λr T=> ?_;show(r.map λo=>o.getD 0)[k]?.getD 0=_;rw[Qu,Qf (by rw[R.row r T];exact q)];rfl
section
variable{C:Cx}{mg mb:Jq->Option Jf}{n:Nat}{Q:D->Bool->Prop}{X:DX}
theorem gc(e:Env1 C G1 mg mb)(R:Rect c h w)(k:Q (.list ((psF c h w).map dP)) Jc):aR (aO C (n+2)) "hidden_in" [(dC c,b)] Q X:=by
 refine e.fn fq (by simp[tab]) rfl λl u P PX g=> ?_;dsimp only[fq];dsimp only[br,ci,bD];refine b0 ?_;refine cG rfl ?_
 (dsimp only[fsts,aC,aH,aW,aE,aI,aU,c7,aQ,flags,aD,aG,Qa,aA,aL,bt,aT,bH,bZ,bE];refine⟨rfl,?_⟩)
 refine g.hc<|ot e R ?_;dsimp only[cU,aA,bt,bk];refine cY dP dP (λp=> !(cO c p.1 p.2).isSome) (λp D=> ?_) ?_
 ·obtain⟨N,B⟩:=allF_mem.mp D;dsimp only[dP];dsimp only[bp,cr,b5,aM,Qa,aK,aB,aA,bK];refine⟨λT Y=> ?_,λo0 K k=> ?_⟩
  ·dsimp only[tstD];dsimp only[dm,bM,aP,aN,aD,aJ,Qa,aG,aB,aA,aL,gM,ce,ey];refine aS (ew R N) ?_;refine aS (mj R N B) ?_;refine⟨(cJ _).1,?_⟩;rw[(cJ _).2];exact Y
  ·dsimp only[elD];dsimp only[aD,aJ,Qa,aG,aB,aA,aL,bI,tgl,bw,eY,bz,eW];exact k
 ·dsimp only[aF];exact g.qr k
theorem mx(e:Env1 C G1 mg mb)(R:Rect c h w)(k:Q (.list ((psF c h w).map dP)) Jc):aR (aO C (n+2)) "_law_hidden" [(.tup [dC c,dI r,dI s],b)] Q X:=by
 refine e.fn ec (by simp[tab]) rfl λl u P PX g=> ?_;dsimp only[ec];dsimp only[br,ci,bD];refine b0 ?_;refine cG rfl ?_
 (dsimp only[fsts,aC,aH,aW,aE,aI,aU,c7,aQ,flags,aP,aN,aD,aG,Qa,aA,aL,bI,tgl,bw,bC,bz,bA,aB,cz,ce,bt,aT,bH,bZ,bE];refine⟨rfl,?_⟩)
 refine g.hc<|wD e R dO ?_;dsimp only[cU,aA,bt,bk];refine cY dP dP (λp=> !(cO c p.1 p.2).isSome) (λp D=> ?_) ?_
 ·obtain⟨N,Y⟩:=allF_mem.mp D;dsimp only[dP];dsimp only[bp,cr,b5,aM,Qa,aK,aB,aA,bK];refine⟨λT q=> ?_,λo0 K k=> ?_⟩
  ·dsimp only[tstD];dsimp only[dm,bM,aP,aN,aD,aJ,Qa,aG,aB,aA,aL,gM,ce,ey,cz];refine aS (ew R N) ?_;refine aS (mj R N Y) ?_;refine⟨(cJ _).1,?_⟩;rw[(cJ _).2];exact q
  ·dsimp only[elD];dsimp only[aD,aJ,Qa,aG,aB,aA,aL,bI,tgl,bw,eY,bz,eW];exact k
 ·dsimp only[aF];exact g.qr k
theorem ik(e:Env1 C G1 mg mb){r s:List Int}(R:Rect c h w)(T:r.length=h)(E:s.length=w)(k:Q (.tup [dI ((Qc h).map (r1F c r)),dI ((Qc w).map (r2F c s))]) Jc):
  aR (aO C<|n+2) "_law_rests" [(.tup [dC c,dI r,dI s],b)] Q X:=by
 refine e.fn eF (by simp[tab]) rfl λM u P PX g=> ?_;dsimp only[eF];dsimp only[br,ci,bD];have Z:=R.z;refine aZ ?_;refine bY rfl ?_;dsimp only[fsts,aC,aH,aW,aE,aI,aU,c7,aP,aN,aD,aG,Qa,aJ,aB,aA,aL,bI,tgl,bw,bC,bz,bA,cz,ce,bt,bH,cU];refine bS dR (λH=>dI<|H.map λo=>o.getD 0) (λH f K k=> ?_) ?_
 ·dsimp only[bp,cr,b5,aM,Qa,aK,aB,aA,bK];dsimp only[elD];refine bY rfl ?_;dsimp only[fsts,aC,aH,aW,aE,aI,aU,c7,aD,aJ,Qa,aG,aB,aA,aL,bt,bH,cU];refine bS dO (λo=> .int (o.getD 0)) (λo d K k=> ?_) ?_
  ·dsimp only[bp,cr,b5,aM,Qa,aK,aB,aA,bK];dsimp only[elD]
   (dsimp only[aP,bj,jb,aC,aE,bV,dm,bM,aD,aJ,Qa,aG,aB,aA,aL,bv,fsts,dnew,aH,aY,aW,aI,aX,aU,aN,bk];refine⟨by decide,rfl,?_⟩)
   refine⟨(cJ _).1,?_⟩;rw[(cJ _).2]
   induction o with
   |none=>exact k
   |some i=>exact k
  ·rw[dI,Qx] at k;exact k
 dsimp only[bq,aF,aK,Qa,aM,aB,aA];rw[show(c.map λH=>dI<|H.map λo=>o.getD 0)=(zF c).map dI from by rw[zF,Qx];rfl];refine aZ ?_;refine bY rfl ?_
 (dsimp only[fsts,aC,aH,aW,aE,aI,aU,bj,bU,bk,eA,eP,bV,aD,aG,Qa,aJ,aB,aA,aL,cg,cD];refine⟨rfl,?_⟩)
 rw[Z.lenD];refine⟨rg R.h8,bP (λk=> .int (r1F c r k)) (λi t K k=> ?_) ?_⟩
 ·dsimp only[bp,cr,b5,aM,Qa,aK,aB,aA,bK];dsimp only[elD];dsimp only[bl,bj,f5,aC,aE,bV,aP,aD,aJ,Qa,aG,aB,aA,aL,aN,bI,tgl,bw,bC,bz,bA,jo,ce,bt];refine aS (dD<|by rw[T];exact t) ?_
  (dsimp only[bB,cT];refine⟨rfl,?_⟩)
  refine aS (g6 Z t) ?_;dsimp only[de];refine eD (cp _) ?_;rw[z1 R r t];exact k
 dsimp only[bq,aF,aK,Qa,aM,aB,aA];refine aZ ?_
 (dsimp only[aQ,flags,aC,aH,aW,aE,aI,aU,aD,aG,Qa,aJ,aB,aA,aL,bt,aT,bH,bZ,bE];refine⟨rfl,?_⟩)
 refine g.hc<|zf e Z ?_;dsimp only[aA,bt,bq,aF,aK,Qa,aM,aB];refine cK ?_
 (dsimp only[dS,c9,aY,dZ,aX,oY,b8,aK,Qa,aB,aA,aG,aL,bC];refine⟨rfl,?_⟩)
 refine bY rfl ?_
 (dsimp only[fsts,aC,aH,aW,aE,aI,aU,bj,bU,bk,eA,eP,bV,aD,aG,Qa,aA,aB,aL,cg,cD];refine⟨rfl,?_⟩)
 have l:(csF (zF c) w).length=w:=by rw[csF,Qd,Qr]
 rw[Qd,l];refine⟨rg R.w8,bP (λk=> .int (r2F c s k)) (λi t K k=> ?_) ?_⟩
 ·dsimp only[bp,cr,b5,aM,Qa,aK,aB,aA,bK];dsimp only[elD];dsimp only[bl,aP,aD,aJ,Qa,aG,aB,aA,aL,bt,aN,bI,tgl,bw,bC,bz,bA,jl,ce];rw[dD (by rw[l];exact t)];dsimp only[ce,bB];refine aS (dD<|by rw[E];exact t) ?_;dsimp only[cT];rw[z2 R s t];exact k
 ·refine⟨rfl,by decide,?_⟩;rw[dI,dI,Qx,Qx] at k;exact g.qr k
end
noncomputable def upd{α u:Type}[DecidableEq α](g:α->u)(x:α)(v:u):α->u:=λy=>if y=x then v else g y
theorem bO{α u:Type}[DecidableEq α](g:α->u)(x:α)(v:u):upd g x v x=v:=Y8 rfl
theorem b9{α u:Type}[DecidableEq α](g:α->u){x y:α}(v:u)(h:y≠x):upd g x v y=g y:=Y7 h
theorem my{α u t:Type}[DecidableEq α](f:u->t)(g:α->u)(x:α)(v:u):upd (λy=>f (g y)) x (f v)=λy=>f (upd g x v y):=by
 funext y;by_cases h:y=x
 ·subst h;rw[bO,bO]
 ·rw[b9 _ _ h,b9 _ _ h]
noncomputable abbrev md{α:Type}(kf:α->List KA)(g:α->D)(xs:List α):D:= .dict (xs.map kf) (xs.map g)
noncomputable def withx{α:Type}[DecidableEq α](xs:List α)(x:α):List α:=if x∈xs then xs else xs++[x]
section
variable{α:Type}[DecidableEq α]{kf:α->List KA}(inj:∀a b,kf a=kf b->a=b){g:α->D}
include inj
theorem j8:∀ {xs:List α},x∈xs->∃j,kidx (xs.map kf) (kf x)=Ja j/\xs[j]? =Ja x
 |y::r,h=>by
  by_cases e:y=x
  ·subst e;exact⟨0,Y8 rfl,rfl⟩
  ·obtain⟨j,N,p⟩:=j8 ((QB.mp h).resolve_left λq=>e q.symm);refine⟨j+1,?_,p⟩;show(if kf y=kf x then Ja 0 else(kidx (r.map kf)<|kf x).map (· +1))=_;rw[Y7 λq=>e<|inj _ _ q,N];rfl
theorem pT:∀ {xs:List α},x∉xs->kidx (xs.map kf) (kf x)=Jb
 |[]=>λo0=>rfl
 |y::r=>λh=>by
  show(if kf y=kf x then Ja 0 else(kidx (r.map kf)<|kf x).map (· +1))=_;rw[Y7 λq=>h<|by rw[inj y x q];exact .head _,pT λq=>h (.tail _ q)];rfl
theorem mT{xs:List α}:(kidx (xs.map kf) (kf x)).isSome=decide (x∈xs):=by
 by_cases h:x∈xs
 ·obtain⟨j,N,o0⟩:=j8 inj h;rw[N,Y4 h];rfl
 ·rw[pT inj h,Y5 h];rfl
theorem l4{xs:List α}(h:x∈xs):dlook (xs.map kf) (xs.map g) (kf x)=Ja (g x):=by
 obtain⟨j,N,p⟩:=j8 inj h;unfold dlook;rw[N];show(xs.map g)[j]? =_;rw[Qu,p];rfl
theorem mM{xs:List α}(h:x∉xs):dlook (xs.map kf) (xs.map g) (kf x)=Jb:=by
 unfold dlook;rw[pT inj h];rfl
omit inj in
theorem map_set{xs:List α}(nd:xs.Nodup){x:α}{j:Nat}(h:xs[j]? =Ja x)(v:D):(xs.map g).set j v=xs.map (upd g x v):=by
 refine WM λi=> ?_;have H:j<xs.length:=(QK.mp h).1;rw[Ws,Qd,Y8 H,Qu,Qu];by_cases e:j=i
 ·subst e;rw[Y8 rfl,h];show Ja v=Ja (upd g x v x);rw[bO]
 ·rw[Y7 e]
  induction t:xs[i]? with
  |none=>rfl
  |some y=>
   have:y≠x:=by
    rintro rfl;exact e<|(List.getElem?_inj H nd).mp (h.trans t.symm)
   show Ja (g y)=Ja (upd g x v y);rw[b9 _ _ this]
omit inj in
theorem qw{xs:List α}{x:α}(h:x∉xs)(v:D):xs.map g++[v]=(xs++[x]).map (upd g x v):=by
 rw[QC];show _=xs.map (upd g x v)++[upd g x v x]
 rw[bO]
 congr 1
 exact Qo λy W=>(b9 g v λq=>h<|by rw[<-q];exact W).symm
theorem yX{xs:List α}(nd:xs.Nodup)(v:D):dkset (xs.map kf) (xs.map g) (kf x) v=md kf (upd g x v) (withx xs x):=by
 unfold dkset withx md;by_cases h:x∈xs
 ·obtain⟨j,N,p⟩:=j8 inj h;rw[N,Y8 h,<-map_set nd p]
 ·rw[pT inj h,Y7 h,<-qw h,QC];rfl
theorem xv{xs:List α}:dens (xs.map kf) (xs.map g) (kf x)=if x∈xs then md kf g xs else md kf (upd g x (.list [])) (xs++[x]):=by
 unfold dens;by_cases h:x∈xs
 ·rw[l4 inj h,Y8 h]
 ·rw[mM inj h,Y7 h];unfold md;rw[<-qw h,QC];rfl
theorem ct{d:D}(v:keyD d=Ja (kf x))(h:x∈xs):dsub (md kf g xs) d=Ja (g x):=by
 show((keyD d).bind λk=>dlook (xs.map kf) (xs.map g) k)=_;rw[v];exact l4 inj h
theorem ye{xs:List α}(nd:xs.Nodup){d v:D}(q:keyD d=Ja (kf x))(h:x∈xs):dset1 d (λo0=>Ja v) (md kf g xs)=Ja (md kf (upd g x v) xs):=by
 obtain⟨j,N,p⟩:=j8 inj h;show((keyD d).bind λk=>(kidx (xs.map kf) k).bind λj=>((xs.map g)[j]?).bind λx=>Wx (λy=>D.dict (xs.map kf)<|(xs.map g).set j y)<|Ja v)=_;rw[q];show((kidx (xs.map kf)<|kf x).bind λj=>((xs.map g)[j]?).bind λx=>Wx (λy=>D.dict (xs.map kf)<|(xs.map g).set j y)<|Ja v)=_;rw[N];show(((xs.map g)[j]?).bind λx=>Wx (λy=>D.dict (xs.map kf)<|(xs.map g).set j y)<|Ja v)=_;rw[Qu,p];show Ja (D.dict (xs.map kf)<|(xs.map g).set j v)=_;rw[map_set nd p]
end
theorem iD{α:Type}[DecidableEq α]{xs:List α}(nd:xs.Nodup)(x:α):(withx xs x).Nodup:=by
 unfold withx
 split
 ·exact nd
 ·rename_i h
  exact Qv.mpr ⟨nd,QA.mpr ⟨λq=>(bN q),.nil⟩,λa T b R q=>h<|by rw[Qk.mp R] at q;exact q▸T⟩
theorem withx_mem{α:Type}[DecidableEq α]{xs:List α}{x y:α}:y∈withx xs x↔y∈xs\/y=x:=by
 unfold withx
 split
 ·rename_i h
  exact⟨.inl,λq=>q.elim id λq=>q▸h⟩
 ·rw[Qt,Qk]
theorem wN{α:Type}(kf:α->List KA)(g:α->D)(xs:List α):md kf g xs= .dict (xs.map kf) (xs.map g):=rfl
section
variable{G:Gx}{cl cu:DCl}{Δ:DRho}{Q:bT}{X:DSX}{r:List S}{α:Type}[DecidableEq α]{kf:α->List KA}{g:α->D}{xs:List α}
theorem tI(inj:∀a b,kf a=kf b->a=b){x:String}{k e:E}{a:α}{old:List D}{dk dv:D}(hx:Δ.get x=Ja (md kf g xs,Jc))(nd:xs.Nodup)(l:xs.length<lim)(q:keyD dk=Ja (kf a))(o:old.length<lim)
  (S:a∈xs->g a= .list old)(c:a∉xs->old=[])
  (N:∀ (Q:DQ) (X:DX),Q dk Jb->dwe G cl k Δ Q X)(we:∀ (z:D) (Q:DQ) (X:DX),Q dv Jb->dwe G cl e (Δ.put x (z,Jc)) Q X)
  (h:dwss G cl cu r (Δ.put x (md kf (upd g a<|.list (old++[dv]))<|withx xs a,Jc)) Q X):dwss G cl cu (.expr (.meth (.sd (.loc x) k) .append [e])::r) Δ Q X:=by
 refine yF ?_;show dsd G cl .append [e] Δ (λP=>dwss G cl cu r P Q X) x k;unfold dsd;rw[hx,aL];refine⟨rfl,?_⟩;rw[wN,uq];refine N _ _ ⟨by rw[Qd];exact l,?_⟩;rw[q,ny,xv inj];dsimp only;have f:∀ (i:α->D) (s:List α),s.Nodup->a∈s->i a= .list old->md kf (upd i a<|.list (old++[dv])) s=md kf (upd g a<|.list (old++[dv])) (withx xs a)->
   dOD (λZ=>drecv .append Z/\dwes G cl [e] (Δ.put x (md kf i s,Jc)) (λJ=>tjs J=Jb/\dmeth .append (fsts J) Z λB=>dOD (λd=>dwss G cl cu r (Δ.put x (d,Jc)) Q X)<|dset1 dk (λo0=>Ja B) (md kf i s)) λo0 o0=>False) (dsub (md kf i s) dk):=λi s T m v I=>by
  rw[ct inj q m,ce,v];refine⟨trivial,?_⟩;rw[aC];refine we _ _ _ ?_;rw[aE];refine⟨rfl,o,?_⟩;dsimp only;rw[ye inj T q m,ce,I];exact h
 by_cases m:a∈xs
 ·rw[Y8 m];exact f g xs nd m (S m)<|by unfold withx;rw[Y8 m]
 ·rw[Y7 m];have w:withx xs a=xs++[a]:=by unfold withx;rw[Y7 m]
  refine f _ (xs++[a]) (w▸iD nd a) (Qe _<|.head _) (by rw[bO,c m]) ?_;rw[w]
  congr 1
  funext y;by_cases W:y=a
  ·subst W;rw[bO,bO]
  ·rw[b9 _ _ W,b9 _ _ W,b9 _ _ W]
theorem kK(inj:∀a b,kf a=kf b->a=b)(hx:Δ.get x=Ja (md kf g xs,Jc))(nd:xs.Nodup)(l:xs.length<lim)(q:keyD dk=Ja (kf a))
  (we:∀ (Q:D->DRho->Prop),Q dv Δ->dwm G cl e Δ Q)(w:∀ (Q:DQ) (X:DX),Q dk Jb->dwe G cl k Δ Q X)
  (h:dwss G cl cu r (Δ.put x (md kf (upd g a dv)<|withx xs a,Jc)) Q X):dwss G cl cu (.setIdx (.loc x) k e::r) Δ Q X:=by
 refine pO<|we _ ?_;rw[lJ,hx,aL];refine⟨rfl,w _ _ ?_⟩;rw[wN,Ar];refine⟨by rw[Qd];exact l,?_⟩;rw[q,ny,yX inj nd];show dOE _ (Δ.get x);rw[hx,aL];exact h
end
set_option genCtorIdx false in set_option genInjectivity true in
inductive Nd where
 |r(i:Nat)|c(j:Nat)
noncomputable abbrev Nd.ctorIdx(x:Nd):Nat:=Nd.casesOn x (λo0=>0) (λo0=>1)
deriving instance DecidableEq for Nd
abbrev Pl:=Nat×Nat
noncomputable def Nd.key:Nd->List KA
 | .r i=>[.t "row",.n i]
 | .c j=>[.t "column",.n j]
noncomputable def dN:Nd->D
 | .r i=> .tup [.str "row",.int i]
 | .c j=> .tup [.str "column",.int j]
noncomputable def pkey(p:Pl):List KA:=[.n p.1,.n p.2]
theorem fE(x:Nd):keyD (dN x)=Ja x.key:=by rcases x with⟨⟩<;>rfl
theorem cI(p:Pl):keyD (dP p)=Ja (pkey p):=rfl
theorem c6:∀a b:Nd,a.key=b.key->a=b
 | .r i,.r j=>λh=>by injection h with _ h;injection h with h;injection h with h;rw[Wr.mp h]
 | .c i,.c j=>λh=>by injection h with _ h;injection h with h;injection h with h;rw[Wr.mp h]
 | .r i,.c j=>λh=>by injection h with h;injection h with h;exact absurd h<|by decide
 | .c i,.r j=>λh=>by injection h with h;injection h with h;exact absurd h<|by decide
theorem bW(a b:Pl)(h:pkey a=pkey b):a=b:=by
 injection h with h1 h;injection h1 with h1;injection h with h2;injection h2 with h2;exact Prod.ext (Wr.mp h1)<|Wr.mp h2
def dE(e:Nd×Pl):D:= .tup [dN e.1,dP e.2]
noncomputable def nbrs(ps:List Pl):Nd->List (Nd×Pl)
 | .r i=>(ps.filter λp=>decide (p.1=i)).map λp=>(.c p.2,p)
 | .c j=>(ps.filter λp=>decide (p.2=j)).map λp=>(.r p.1,p)
def nearG(ps:List Pl)(x:Nd):D:= .list ((nbrs ps x).map dE)
theorem d7(x:Nd):(dN x).atom=Jc:=by rcases x with⟨⟩<;>rfl
theorem k6(ps:List Pl)(p:Pl)(x:Nd):nbrs (ps++[p]) x=nbrs ps x++(if x= .r p.1 then [(.c p.2,p)] else if x= .c p.2 then [(.r p.1,p)] else []):=by
 induction x with
 |r i=>
  show KQ _ (Wi _ _)=_;rw[Yg,QC];by_cases h:p.1=i
  ·subst h;rw[Y8 rfl,QX (by simp)];rfl
  ·rw[Y7 (λq=>h (Nd.r.inj q).symm),Y7 (λq=>nomatch q),QY (by simpa using h)];rfl
 |c j=>
  show KQ _ (Wi _ _)=_;rw[Yg,QC];by_cases h:p.2=j
  ·subst h;rw[Y7 (λq=>nomatch q),Y8 rfl,QX (by simp)];rfl
  ·rw[Y7 (λq=>nomatch q),Y7<|λq=>h (Nd.c.inj q).symm,QY (by simpa using h)];rfl
theorem s7(ps:List Pl)(x:Nd):(nbrs ps x).length<=ps.length:=by
 induction x with
 |r i=>show(KQ _ _).length<=_;rw[Qd];exact Ku _ _
 |c i=>show(KQ _ _).length<=_;rw[Qd];exact Ku _ _
structure NearX(ps:List Pl)(xs:List Nd):Prop where
 nd:xs.Nodup
 len:xs.length<=2*ps.length
 out:∀x,x∉xs->nbrs ps x=[]
theorem jd{α:Type}[DecidableEq α](xs:List α)(x:α):(withx xs x).length<=xs.length+1:=by
 unfold withx
 split
 ·exact Wo _
 ·rw[QD];exact Qz _
theorem NearX.snoc{ps:List Pl}{xs:List Nd}(h:NearX ps xs)(p:Pl):NearX (ps++[p]) (withx (withx xs (.r p.1)) (.c p.2)):=by
 refine⟨iD (iD h.nd _) _,?_,λx hx=> ?_⟩
 ·have N:=jd (withx xs<|.r p.1)<|.c p.2;have Y:=jd xs<|.r p.1;have J:=h.len;rw[QD,WO];exact zle N<|KM (zle Y<|KM J)
 ·rw[withx_mem,withx_mem,not_or,not_or] at hx;rw[k6,h.out x hx.1.1,Y7 hx.1.2,Y7 hx.2];rfl
theorem qS(ps:List Pl)(p:Pl):upd (upd (nearG ps) (.r p.1) (.list ((nbrs ps (.r p.1)).map dE++[dE (.c p.2,p)]))) (.c p.2) (.list ((nbrs ps (.c p.2)).map dE++[dE (.r p.1,p)]))=nearG (ps++[p]):=by
 funext x;unfold nearG;rw[k6,QC];by_cases Y:x= .c p.2
 ·subst Y;rw[bO,Y7 (λq=>nomatch q),Y8 rfl];rfl
 ·rw[b9 _ _ Y];by_cases h:x= .r p.1
  ·subst h;rw[bO,Y8 rfl];rfl
  ·rw[b9 _ _ h,Y7 h,Y7 Y,WD,QI]
section
variable{C:Cx}{mg mb:Jq->Option Jf}{n:Nat}{Q:D->Bool->Prop}{X:DX}
theorem tB(e:Env1 C G1 mg mb){ps:List Pl}(D:ps.length<=64){b:Bool}(k:∀xs,NearX ps xs->Q (md Nd.key (nearG ps) xs) Jc):aR (aO C (n+1)) "near_of" [(.list (ps.map dP),b)] Q X:=by
 refine e.fn g7 (by simp[tab]) rfl λcl cu P PX F=> ?_;dsimp only[g7];dsimp only[br,ci,bD];refine aZ ?_
 (dsimp only[jr,bq,aF,aK,Qa,aM,aB,aA];refine⟨rfl,?_⟩)
 refine dK rfl ?_;dsimp only[fsts,aC,aH,aW,aE,aI,aU,c7,aD,aG,Qa,aJ,aB,aA,aL,bt,bH,i4,iG,iO,iY,bC,bA,iC,dG,jt,eh,iP,iJ,cU];refine dl dP (λi Δ=>X3 λv xs c=>NearX (ps.take i) xs/\Δ=(Nb "places" c (.list<|ps.map dP)<|Nb "found" Jc (md Nd.key (nearG<|ps.take i) xs)<|No "place" v<|[])) _ _ ⟨_,[],_,⟨.nil,QN _,λx o0=>by rcases x with⟨⟩<;>rfl⟩,rfl⟩ ?_ ?_
 ·rintro j p Δ H ⟨v,xs,c,N,rfl⟩ K m;have E:ps.take (j+1)=ps.take j++[p]:=by rw[List.take_add_one,H];rfl
  have l:(ps.take j).length<=64:=by rw[WV];exact zle (Wy _ _) D
  have h:=N.len;generalize ps.take j=s at N E l h ⊢;have R:∀x,((nbrs s x).map dE).length<lim:=λx=>by rw[Qd];exact cZ (by have:=s7 s x;exact zb1 (zle this l) rfl)
  dsimp only[b5,aK,Qa,aM,aA,aB,bK];refine tI c6 (a:= .r p.1) (g:=nearG s) (xs:=xs) (dk:=dN<|.r p.1) (dv:=dE (.c p.2,p)) (old:=(nbrs s<|.r p.1).map dE) rfl N.nd (cZ<|by exact zb1 (zle h<|WX 2 l) rfl) (fE _) (R _) (λo0=>rfl) (λq=>by rw[N.out _ q];rfl) (λQ X q=> ?_) (λd Q X q=> ?_) ?_
  ·dsimp only[dP];dsimp only[gG,bw,eY,bz,eW,bR,fsts,dtup,aC,aH,aY,aW,aE,aI,aX,aU,aP,aN,aD,aG,Qa,aA,aB,aL,bI,tgl,ey,ce,bB,bk,bX];refine fV ?_
   (dsimp only[bk];refine⟨by decide,?_⟩)
   exact q
  ·dsimp only[dP];dsimp only[gG,bw,eY,bz,eW,aK,Qa,aB,aA,bR,fsts,dtup,aC,aH,aY,aW,aE,aI,aX,aU,aD,aG,aL,bI,tgl,bk,aP,aN,gM,ce,bB,bX];refine fD ?_
   (dsimp only[bk];refine⟨by decide,by decide,?_⟩)
   exact q
  dsimp only[aK,Qa,aB,aA];have Y:=jd xs<|.r p.1;refine tI c6 (a:= .c p.2) (dk:=dN<|.c p.2) (dv:=dE (.r p.1,p)) (old:=(nbrs s<|.c p.2).map dE) rfl (iD N.nd _) (cZ<|by exact zb1 (zle Y<|KM (zle h<|WX 2 l)) rfl) (fE _) (R _) (λo0=>b9 (nearG s) (y:=Nd.c p.2) _ (λq=>nomatch q)) (λq=>by rw[N.out _ λz=>q (withx_mem.mpr<|.inl z)];rfl) (λQ X q=> ?_) (λd Q X q=> ?_) ?_
  ·dsimp only[dP];dsimp only[gG,bw,eY,bz,eW,bR,fsts,dtup,aC,aH,aY,aW,aE,aI,aX,aU,aP,aN,aD,aG,Qa,aA,aB,aL,bI,tgl,gM,ce,bB,bk,bX];refine fD ?_
   (dsimp only[bk];refine⟨by decide,?_⟩)
   exact q
  ·dsimp only[dP];dsimp only[gG,bw,eY,bz,eW,aK,Qa,aB,aA,bR,fsts,dtup,aC,aH,aY,aW,aE,aI,aX,aU,aD,aG,aL,bI,tgl,bk,aP,aN,ey,ce,bB,bX];refine fV ?_
   (dsimp only[bk];refine⟨by decide,by decide,?_⟩)
   exact q
  dsimp only[aK,Qa,aB,aA];rw[qS];exact m _ ⟨_,_,_,E▸N.snoc p,by rw[E];rfl⟩
 ·rintro Δ ⟨v,xs,c,N,rfl⟩;rw[Kl] at N;refine cK ?_;rw[Kl]
  (dsimp only[b8,aK,Qa,aM,aB,aA,aG,aJ,aL,dG];refine⟨rfl,?_⟩)
  exact F.qr<|k xs N
end
theorem sN{L:Type}[DecidableEq L]:∀ {xs ys:List L},xs.Nodup->(∀x∈xs,x∈ys)->xs.length<=ys.length:=λ{xs}=>by
 induction xs with
 |nil=>exact λ{ys} _ _=>QN _
 |cons x xs i=>
  intro ys nd h;obtain⟨n,z⟩:=QA.mp nd;have hx:=h x<|.head _;have:=i (ys:=ys.erase x) z λy W=>(List.mem_erase_of_ne<|λ(q:y=x)=>n<|q▸W).mpr (h y<|.tail _ W);rw[List.length_erase_of_mem hx] at this;exact Nat.add_le_of_le_sub (List.length_pos_of_mem hx) this
abbrev Par:=Nd->Option (Nd×Pl)
abbrev Bs:=List Nd×Par
noncomputable def Nd.isR:Nd->Bool
 | .r _=>Jc
 | .c _=>Jd
noncomputable def okE(x:Pl->Int)(z:Nd)(p:Pl):Bool:=z.isR||decide (x p>0)
def stp(x:Pl->Int)(z:Nd)(s:Bs)(e:Nd×Pl):Bs:=if e.1∉s.1/\okE x z e.2=Jc then(s.1++[e.1],upd s.2 e.1<|Ja (z,e.2)) else s
noncomputable def bfsO(s:Bs)(f:Nd->Bs):Option Nd->Bs
 |some z=>f z
 |none=>s
noncomputable def bfs(ps:List Pl)(x:Pl->Int):Nat->Nat->Bs->Bs
 |0,_,s=>s
 |k+1,i,s=>bfsO s (λz=>bfs ps x k (i+1) ((nbrs ps z).foldl (stp x z) s)) s.1[i]?
theorem rB(ps:List Pl)(x:Pl->Int)(k i:Nat)(s:Bs):bfs ps x (k+1) i s=bfsO s (λz=>bfs ps x k (i+1) ((nbrs ps z).foldl (stp x z) s)) s.1[i]? :=rfl
noncomputable def allN(h w:Nat):List Nd:=(Qc h).map .r++(Qc w).map .c
structure Bfs(ps:List Pl)(x:Pl->Int)(st:List Nd)(h w:Nat)(s:Bs):Prop where
 nd:s.1.Nodup
 val:∀y∈s.1,y∈allN h w
 has:∀y∈st,y∈s.1
 par:∀ (j:Nat) (y:Nd),s.1[j]? =Ja y->(s.2 y=Jb/\y∈st)\/X3 λ(z:Nd) (p:Pl) (i:Nat)=>A5 (s.2 y=Ja (z,p)) (i<j) (s.1[i]? =Ja z) ((y,p)∈nbrs ps z)<|okE x z p=Jc
theorem Bfs.len{ps:List Pl}{x:Pl->Int}{s:Bs}(b:Bfs ps x st h w s):s.1.length<=h+w:=by
 have:=sN b.nd b.val
 rwa [allN,QD,Qd,Qd,Qr,Qr] at this
def Clo(ps:List Pl)(x:Pl->Int)(n:Nat)(s:Bs):Prop:=∀i z,i<n->s.1[i]? =Ja z->∀e∈nbrs ps z,okE x z e.2=Jc->e.1∈s.1
theorem pA(x:Pl->Int)(z:Nd)(s:Bs)(e:Nd×Pl):s.1<+:(stp x z s e).1:=by
 unfold stp
 split
 ·exact List.prefix_append _ _
 ·exact List.prefix_refl _
theorem iw(x:Pl->Int)(z:Nd):∀ (es:List (Nd×Pl)) (s:Bs),s.1<+:(es.foldl (stp x z) s).1
 |[]=>λs=>List.prefix_refl _
 |e::es=>λs=>(pA x z s e).trans (iw x z es _)
theorem te(x:Pl->Int)(z:Nd):∀ (es:List (Nd×Pl)) (s:Bs),∀e∈es,okE x z e.2=Jc->e.1∈(es.foldl (stp x z) s).1:=λes=>by
 induction es with
 |nil=>exact λs f j=>bN j
 |cons e es i=>
  intro s f j o
  rcases QB.mp j with rfl|j
  ·refine(iw x z es _).subset ?_;unfold stp;by_cases q:f.1∉s.1/\okE x z f.2=Jc
   ·rw[Y8 q];exact Qe _<|.head _
   ·rw[Y7 q];exact Classical.byContradiction λw=>q ⟨w,o⟩
  ·exact i _ f j o
theorem pW{L:Type}{l m:List L}(h:l<+:m){i:Nat}{a:L}(e:l[i]? =Ja a):m[i]? =Ja a:=by
 obtain⟨t,rfl⟩:=h;rw[KX (QK.mp e).1];exact e
theorem qh{ps:List Pl}(D:∀p∈ps,p.1<h/\p.2<w){z:Nd}{e:Nd×Pl}(O:e∈nbrs ps z):e.2∈ps/\e.1∈allN h w:=by
 induction z with
 |r i=>
  obtain⟨p,N,rfl⟩:=Qi.mp O;have N:=(Qj.mp N).1;exact⟨N,Qe _<|Qi.mpr ⟨_,Qh.mpr (D p N).2,rfl⟩⟩
 |c j=>
  obtain⟨p,N,rfl⟩:=Qi.mp O;have N:=(Qj.mp N).1;exact⟨N,Ql _<|Qi.mpr ⟨_,Qh.mpr (D p N).1,rfl⟩⟩
section
variable{ps:List Pl}{x:Pl->Int}{st:List Nd}{h w:Nat}
theorem Bfs.stp(D:∀p∈ps,p.1<h/\p.2<w){s:Bs}(b:Bfs ps x st h w s){z:Nd}{i:Nat}(hz:s.1[i]? =Ja z){e:Nd×Pl}(O:e∈nbrs ps z):Bfs ps x st h w (stp x z s e):=by
 unfold Vl.Internal.stp;by_cases q:e.1∉s.1/\okE x z e.2=Jc
 ·rw[Y8 q];refine⟨?_,λy W=> ?_,λy W=>Ql _<|b.has y W,λj y H=> ?_⟩
  ·exact Qv.mpr ⟨b.nd,QA.mpr ⟨λq=>(bN q),.nil⟩,λa Z c C r=>q.1<|by rw[Qk.mp C] at r;exact r▸Z⟩
  ·rcases Qt.mp W with W|W
   ·exact b.val y W
   ·rw[Qk.mp W];exact(qh D O).2
  ·have l:i<s.1.length:=(QK.mp hz).1
   rcases Nat.lt_or_ge j s.1.length with M|M
   ·rw[KX M] at H;have W:y≠e.1:=λr=>q.1 (r▸QJ H)
    rcases b.par j y H with⟨N,Y⟩|⟨A,p,G,N,Y,J,T,B⟩
    ·exact .inl ⟨(b9 s.2 _ W).trans N,Y⟩
    ·exact .inr ⟨A,p,G,(b9 s.2 _ W).trans N,Y,by rw[KX (by exact Nat.lt_trans Y M)];exact J,T,B⟩
   ·rw[Wp M] at H;have:j-s.1.length=0:=by
     rcases Nat.eq_zero_or_pos (j-s.1.length) with r|r
     ·exact r
     ·rw[KK (show [e.1].length<=_ from r)] at H;exact ns H
    rw[this] at H;obtain rfl:=sj H;exact .inr ⟨z,e.2,i,bO _ _ _,by exact zll l M,by rw[KX l];exact hz,O,q.2⟩
 ·rw[Y7 q];exact b
theorem Bfs.fold(D:∀p∈ps,p.1<h/\p.2<w){z:Nd}{i:Nat}:∀ (es:List (Nd×Pl)) {s:Bs},Bfs ps x st h w s->s.1[i]? =Ja z->(∀e∈es,e∈nbrs ps z)->Bfs ps x st h w (es.foldl (Vl.Internal.stp x z) s):=λes=>by
 induction es with
 |nil=>exact λb o0 o0=>b
 |cons e es W=>exact λ{s} b v O=>W (b.stp D v (O e (.head _))) (pW (pA x z s e) v) λf j=>O f<|.tail _ j
theorem oH(D:∀p∈ps,p.1<h/\p.2<w)(X:h+w<=16):∀ (k i:Nat) (s:Bs),Bfs ps x st h w s->Clo ps x i s->i<=s.1.length->16<i+k->Bfs ps x st h w (bfs ps x k i s)/\∀z∈(bfs ps x k i s).1,∀e∈nbrs ps z,okE x z e.2=Jc->e.1∈(bfs ps x k i s).1
 |0=>λi s b o0 t g=>by have:=b.len;exact absurd g<|QT.mpr (zle t<|zle this X)
 |k+1=>λi s b c t g=>by
  rw[rB]
  induction e:s.1[i]? with
  |none=>
   have:s.1.length<=i:=Yb.mp e;show Bfs ps x st h w s/\∀z∈s.1,_;refine⟨b,λz v f W o=> ?_⟩;obtain⟨j,H⟩:=Yx v;exact c j z (zll (QK.mp H).1 this) H f W o
  |some z=>
   have r:=iw x z (nbrs ps z) s;have l:i<s.1.length:=(QK.mp e).1;refine oH D X k (i+1) _ (Bfs.fold D _ b e λf W=>W) (λj y H S f W o=> ?_) (zle l r.length_le)<|Nat.lt_of_lt_of_eq g (QQ i 1 k).symm;have M:j<s.1.length:=by exact zl (zs H) l
   have R:s.1[j]? =Ja y:=by
    have J:=pW r<|Qf M;rw[Qf M,<-J];exact S
   by_cases q:j=i
   ·subst q;obtain rfl:=sj<|e.symm.trans R;exact te x z _ _ f W o
   ·exact r.subset<|c j y (by exact Nat.lt_of_le_of_ne (zs H) q) R f W o
end
theorem fJ{tst:DRho->(Bool->Prop)->Prop}{body:DRho->bT->Prop}(I:Nat->DRho->Prop)
  (h:∀ (k:Nat) (L:DRho),I k L->∀K:DRho->Prop,(∀j P,j<k->I j P->K P)->tst L λb=>cond b (body L<|donFl K Q)<|Q .next L):∀ (n k:Nat) (L:DRho),k<n->I k L->dwhGo tst body Q n L
 |0=>λk o0 q o0=>absurd q<|Kw _
 |n+1=>λk L q i=>h k L i (λJ=>dwhGo tst body Q n J) λj P H w=>fJ I h n j P (QO H<|Ym q) w
def dV:Option (Nd×Pl)->D
 |none=> .none
 |some e=> .tup [dN e.1,dP e.2]
abbrev dCm(s:Bs):D:=md Nd.key (λy=>dV (s.2 y)) s.1
abbrev dCt(ps:List Pl)(x:Pl->Int):D:=md pkey (λp=> .int (x p)) ps
noncomputable def Nd.wd:Nd->String
 | .r _=>"row"
 | .c _=>"column"
noncomputable def Nd.no:Nd->Nat
 | .r i=>i
 | .c i=>i
theorem qa(z:Nd):dsub (dN z) (.int 0)=Ja (.str z.wd):=by rcases z with⟨⟩<;>rfl
theorem pr(z:Nd):dsub (dN z) (.int 1)=Ja (.int z.no):=by rcases z with⟨⟩<;>rfl
theorem zX(z:Nd):dN z= .tup [.str z.wd,.int z.no]:=by rcases z with⟨⟩<;>rfl
theorem l6:D.okd 40 (.str "row")=Jc:=by decide+kernel
theorem lz:D.okd 40 (.str "column")=Jc:=by decide+kernel
theorem xY:D.eqv (.str "row") (.str "row")=Jc:=fK _
theorem xO:D.eqv (.str "column") (.str "column")=Jc:=fK _
theorem yl:D.eqv (.str "row") (.str "column")=Jd:=by decide+kernel
theorem yS:D.eqv (.str "column") (.str "row")=Jd:=by decide+kernel
theorem oJ(z:Nd):D.okd 40 (.str z.wd)=Jc:=by
 induction z with
 |r i=>exact l6
 |c i=>exact lz
theorem pJ(z:Nd):D.eqv (.str z.wd) (.str "row")=z.isR:=by
 induction z with
 |r i=>exact xY
 |c i=>exact yS
theorem qv(z:Nd):D.eqv (.str z.wd) (.str "column")= !z.isR:=by
 induction z with
 |r i=>exact yl
 |c i=>exact xO
theorem nW(p:Pl):D.okd 40 (dP p)=Jc:=rfl
theorem mr{L:Type}[DecidableEq L]{xs:List L}{x:L}(h:x∉xs):withx xs x=xs++[x]:=Y7 h
theorem tP{s:Bs}{a:Nd}(h:a∉s.1)(v:Option (Nd×Pl)):md Nd.key (upd (λy=>dV (s.2 y)) a (dV v)) (withx s.1 a)=dCm (s.1++[a],upd s.2 a v):=by
 rw[mr h,my dV s.2 a v]
theorem c8{L:Type}{l:List L}{j:Nat}{a:L}(h:l[j]? =Ja a):l.take (j+1)=l.take j++[a]:=by rw[List.take_add_one,h];rfl
theorem pY{L:Type}{l:List L}(nd:l.Nodup){j:Nat}{a:L}(h:l[j]? =Ja a):a∉l.take j:=λq=>by
 have:=nd.sublist<|List.take_sublist (j+1) l;rw[c8 h] at this;exact(Qv.mp this).2.2 a q a (.head _) rfl
theorem yc{ps:List Pl}{x:Pl->Int}{s:Bs}{z:Nd}(h:s.1[i]? =Ja z):bfs ps x (k+1) i s=bfs ps x k (i+1) ((nbrs ps z).foldl (stp x z) s):=by
 rw[rB,h];rfl
theorem uU{ps:List Pl}{x:Pl->Int}{s:Bs}(h:s.1.length<=i):bfs ps x k i s=s:=by
 induction k using Nat.casesOn with
 |zero=>rfl
 |succ k=>
  rw[rB,KK h];rfl
theorem jm{L u:Type}(f:u->L->u)(s:u){l:List L}{j:Nat}{a:L}(h:l[j]? =Ja a):(l.take (j+1)).foldl f s=f ((l.take j).foldl f s) a:=by
 rw[c8 h,List.foldl_append];rfl
def bfsF(ps:List Pl)(x:Pl->Int)(st:List Nd):Bs:=bfs ps x 17 0 (st,λo0=>Jb)
theorem Bfs.start{ps:List Pl}{x:Pl->Int}{st:List Nd}(nd:st.Nodup)(hv:∀y∈st,y∈allN h w):Bfs ps x st h w (st,λo0=>Jb):=
 ⟨nd,hv,λy W=>W,λj y H=> .inl ⟨rfl,QJ H⟩⟩
noncomputable def bn(ban:Option Pl)(ps:List Pl):List Pl:=ps.filter λq=> !decide (ban=Ja q)
def dBn:Option Pl->D
 |none=> .none
 |some p=>dP p
theorem uO(ps:List Pl):bn Jb ps=ps:=List.filter_eq_self.mpr λq o0=>by rw[Y5 (λz=>ns z)];rfl
theorem bn_mem{ps:List Pl}:q∈bn ban ps↔q∈ps/\ban≠Ja q:=by
 rw[bn,Qj];exact and_congr_right λo0=>⟨λh z=>by rw[Y4 z] at h;exact ft h,λh=>by rw[Y5 h];rfl⟩
theorem vC(ban:Option Pl):D.okd 40 (dBn ban)=Jc:=by rcases ban with⟨⟩<;>rfl
theorem rA(p q:Pl):D.eqv (dP p) (dP q)=decide (p=q):=by
 show D.eqv (.tup [_,_]) (.tup [_,_])=_;rw[zJ,cj,cj,We,QZ,Ua,Ua,Ua];exact⟨λh=>Prod.ext (Wr.mp h.1)<|Wr.mp h.2,λh=>h▸⟨rfl,rfl⟩⟩
theorem wb(p:Pl)(ban:Option Pl):D.eqv (dP p) (dBn ban)=decide (ban=Ja p):=by
 induction ban with
 |none=>rw[Y5 (λz=>ns z)];rfl
 |some q=>exact(rA p q).trans (decide_eq_decide.mpr ⟨λh=>h▸rfl,λh=>(sj h).symm⟩)
theorem l9(ban:Option Pl)(ps:List Pl)(z:Nd):nbrs (bn ban ps) z=(nbrs ps z).filter λe=> !decide (ban=Ja e.2):=by
 induction z with
 |r i=>
  show KQ _ (Wi _<|Wi _ _)=Wi _ (KQ _<|Wi _ _);rw[List.filter_map,Wn,Wn];refine Ub _ (WN λq o0=> ?_);exact Bool.and_comm _ _
 |c i=>
  show KQ _ (Wi _<|Wi _ _)=Wi _ (KQ _<|Wi _ _);rw[List.filter_map,Wn,Wn];refine Ub _ (WN λq o0=> ?_);exact Bool.and_comm _ _
def stpB(ban:Option Pl)(x:Pl->Int)(z:Nd)(s:Bs)(e:Nd×Pl):Bs:=if !decide (ban=Ja e.2) then stp x z s e else s
theorem p8(ban:Option Pl)(x:Pl->Int)(z:Nd)(s:Bs)(l:List (Nd×Pl)):l.foldl (stpB ban x z) s=(l.filter λe=> !decide (ban=Ja e.2)).foldl (stp x z) s:=List.foldl_filter.symm
noncomputable def whB(f:Fn):List S:=match (f.b[4]? :Option S) with
 |some (.while_ _ [_,_,.for_ _ _ _ b])=>b
 |_=>[]
section
variable{C:Cx}{mg mb:Jq->Option Jf}{n:Nat}{Q:D->Bool->Prop}{X:DX}
theorem xm{M W:DCl}{ban:Option Pl}{ps:List Pl}{x:Pl->Int}{st:List Nd}{h w:Nat}(U:∀p∈ps,p.1<h/\p.2<w){s:Bs}{z:Nd}{i:Nat}(b:Bfs (bn ban ps) x st h w s)(hz:s.1[i]? =Ja z)(m:h+w<=16){N b2 c Y:Bool}{u1 Z u2 u3:Option (D×Bool)}{d1 d2:D}{Kp:bT}
  (hK:∀u v,Kp .next (Nb "near" N d1<|Nb "counts" b2 (dCt ps x)<|Nb "starts" c d2<|Nb "banned" Y (dBn ban)<|Nb "came" Jc (dCm<|(nbrs (bn ban ps) z).foldl (stp x z) s)<|Nb "waiting" Jc (.list<|((nbrs (bn ban ps) z).foldl (stp x z) s).1.map dN)<|No "start" Z<|No "at" u1<|Nb "here" Jc (dN z)<|No "other" u<|No "place" v<|[])):
  fA (.tup ["other","place"]) (λL K=>dwss G1 M W (whB eM) L K λo0 o0 o0=>False) Kp ((nbrs ps z).map dE)
   (Nb "near" N d1<|Nb "counts" b2 (dCt ps x)<|Nb "starts" c d2<|Nb "banned" Y (dBn ban)<|Nb "came" Jc (dCm s)<|Nb "waiting" Jc (.list<|s.1.map dN)<|No "start" Z<|No "at" u1<|Nb "here" Jc (dN z)<|No "other" u2<|No "place" u3<|[]):=by
 have tz:∀y t,tg0 (dN y) t=Jb:=λy t=>by unfold tg0;rw[d7];rfl
 have tp:∀y t,tg0 (dP y) t=Jb:=λy t=>rfl;refine dl dE (λj L=>∃u v,L=(Nb "near" N d1<|Nb "counts" b2 (dCt ps x)<|Nb "starts" c d2<|Nb "banned" Y (dBn ban)<|Nb "came" Jc (dCm<|((nbrs ps z).take j).foldl (stpB ban x z) s)<|Nb "waiting" Jc (.list<|(((nbrs ps z).take j).foldl (stpB ban x z) s).1.map dN)<|No "start" Z<|No "at" u1<|Nb "here" Jc (dN z)<|No "other" u<|No "place" v<|[])) _ _ ⟨_,_,rfl⟩ ?_ ?_
 ·rintro j f L B ⟨u,v,rfl⟩ K k;have A:=QJ B;have V:Bfs (bn ban ps) x st h w (((nbrs ps z).take j).foldl (stpB ban x z) s):=by
   rw[p8];refine b.fold (λp d=>U p (bn_mem.mp d).1) _ hz λg e=> ?_;rw[l9];exact Qj.mpr ⟨List.mem_of_mem_take (Qj.mp e).1,(Qj.mp e).2⟩
  have l:=V.len;rw[jm (stpB ban x z) s B] at k;generalize ((nbrs ps z).take j).foldl (stpB ban x z) s=t at V k l ⊢;obtain⟨o,p⟩:=f;have H:=(qh U A).1;dsimp only[dE,whB,eM];dsimp only[gG,bw,bz,jH,aK,Qa,aM,aB,aA,bK];refine dJ ?_;dsimp only[d8,dW,bM,aA,bo,aN,aP,aD,aG,Qa,aJ,aB,aL,dy,deq,bX,ti,ia];rw[rX,fE,ny,mT c6,d7,fb];dsimp only[eW];refine qI (λE=> ?_) λE=> ?_
  ·refine⟨⟨nW p,vC ban⟩,?_⟩;rw[wb];refine qI (λR=> ?_) λR=> ?_
   rotate_left
   ·rw[show stpB ban x z t (o,p)=t from Y7 (by rw[Y4 R];exact QF)] at k;exact k _ ⟨_,_,rfl⟩
   rw[show stpB ban x z t (o,p)=stp x z t (o,p) from Y8 (by rw[Y5 R];rfl)] at k;refine aS (qa _) ?_;refine fV ?_;refine⟨⟨oJ z,l6⟩,?_⟩;rw[pJ];have I:okE x z p=Jc->∀ (r:List S) (X:DSX) (J:bT),(∀P,(∃u v,P=(Nb "near" N d1<|Nb "counts" b2 (dCt ps x)<|Nb "starts" c d2<|Nb "banned" Y (dBn ban)<|Nb "came" Jc (dCm<|stp x z t (o,p))<|Nb "waiting" Jc (.list<|(stp x z t (o,p)).1.map dN)<|No "start" Z<|No "at" u1<|Nb "here" Jc (dN z)<|No "other" u<|No "place" v<|[]))->J .next P)->
     dwss G1 M W [.setIdx (.loc "came") (.loc "other") (.tup [.loc "here",.loc "place"]),.expr (.meth (.loc "waiting") .append [.loc "other"])] (Nb "near" N d1<|Nb "counts" b2 (dCt ps x)<|Nb "starts" c d2<|Nb "banned" Y (dBn ban)<|Nb "came" Jc (dCm t)<|Nb "waiting" Jc (.list<|t.1.map dN)<|No "start" Z<|No "at" u1<|Nb "here" Jc (dN z)<|Nb "other" Jc (dN o)<|Nb "place" Jc (dP p)<|[]) J X:=λF r X J G=>by
    have hs:stp x z t (o,p)=(t.1++[o],upd t.2 o<|Ja (z,p)):=Y8 ⟨E,F⟩;rw[hs] at G;refine kK c6 (a:=o) (g:=λy=>dV<|t.2 y) (xs:=t.1) (dk:=dN o) (dv:=dV<|Ja (z,p)) rfl V.nd (cZ<|by exact zb1 (zle l m) rfl) (fE _) (λQ q=> ?_) (λQ X q=> ?_) ?_
    ·dsimp only[dS,c9,aY,dZ,aX,b8,aK,Qa,aM,aA,aB,aG,aJ,aL];rw[d7,fb]
     (dsimp only[aA];refine⟨by decide,?_⟩)
     exact q
    ·dsimp only[aD,aG,Qa,aJ,aB,aA,aL];rw[tz];exact q
    ·dsimp only[aK,Qa,aM,aB,aA];refine hM ?_
     (dsimp only[aG,Qa,aJ,aB,aA,aL,de,b8,aK,aM];refine⟨trivial,?_⟩)
     rw[d7]
     (dsimp only[aA];refine⟨rfl,?_⟩)
     refine⟨by rw[Qd];exact cZ<|by exact zb1 (zle l m) rfl,G _ ⟨Ja (dN o,Jc),Ja (dP p,Jc),?_⟩⟩;rw[tP E,QC];rfl
   refine lN (λT=> ?_) λT=> ?_
   ·exact I (by unfold okE;rw[T];rfl) [] _ _ λP q=>k P q
   ·refine aS (ct bW (cI p) H) ?_;dsimp only[j0];refine cB (λhx=> ?_) λhx=> ?_
    ·exact I (by unfold okE;rw[T];exact Y4 hx) [] _ _ λP q=>k P q
    ·rw[show stp x z t (o,p)=t from Y7 λq=>by
      have O:(z.isR||decide (x p>0))=Jc:=q.2;rw[T,Y5 hx] at O;exact ft O] at k
     exact k _ ⟨_,_,rfl⟩
  ·rw[show stpB ban x z t (o,p)=t by rw[stpB,show stp x z t (o,p)=t from Y7 λq=>q.1 E,ite_self]] at k;exact k _ ⟨_,_,rfl⟩
 ·rintro L ⟨u,v,rfl⟩;rw[Kl,p8,<-l9];exact hK u v
theorem jf(e:Env1 C G1 mg mb){ban:Option Pl}{ps:List Pl}{x:Pl->Int}{ns st:List Nd}{h w:Nat}(N:NearX ps ns)(G:∀p∈ps,p.1<h/\p.2<w)(O:h<=8)(U:w<=8)(nd:st.Nodup)(hv:∀y∈st,y∈allN h w){b1 b2 b3 Y:Bool}(kq:Q (dCm (bfsF (bn ban ps) x st)) Jc):
  aR (aO C<|n+1) "reached" [(md Nd.key (nearG ps) ns,b1),(dCt ps x,b2),(.list<|st.map dN,b3),(dBn ban,Y)] Q X:=by
 refine e.fn eM (by simp[tab]) rfl λcl cu PQ PX gg=> ?_;dsimp only[eM];dsimp only[br,ci,bD];refine aZ ?_
 (dsimp only[jr,bq,aF,aK,Qa,aM,aB,aA];refine⟨rfl,?_⟩)
 refine aZ ?_
 (dsimp only[bv,fsts,dnew,aE,aI,aX,aU,bq,aF,aK,Qa,aM,aB,aA];refine⟨by decide,?_⟩)
 refine dK rfl ?_;dsimp only[fsts,aC,aH,aW,aE,aI,aU,c7,aD,aG,Qa,aJ,aB,aA,aL,bt,bH,i4,iG,iO,iC,dG,bA,iY,bC,jt,eh,iP,iJ,cU];have H:Bfs (bn ban ps) x st h w (st,λo0=>Jb):= .start nd hv;refine dl dN (λi L=>∃v c,L=(Nb "near" b1 (md Nd.key (nearG ps) ns)<|Nb "counts" b2 (dCt ps x)<|Nb "starts" c (.list<|st.map dN)<|Nb "banned" Y (dBn ban)<|Nb "came" Jc (dCm (st.take i,λo0=>Jb))<|Nb "waiting" Jc (.list<|(st.take i).map dN)<|No "start" v<|No "at" Jb<|No "here" Jb<|No "other" Jb<|No "place" Jb<|[])) _ _ ⟨_,_,rfl⟩ ?_ ?_
 ·rintro j y L S ⟨v,c,rfl⟩ K m;dsimp only[b5,aK,Qa,aM,aB,aA,bK];have l:(st.take j).length<=16:=by
   rw[WV];have:st.length<=h+w:=H.len;exact zle (Wy _ _)<|zle this (Kg O U)
  have o:=pY nd S;refine kK c6 (a:=y) (g:=λy=>dV<|(λo0=>Jb:Par) y) (xs:=st.take j) (dk:=dN y) (dv:= .none) rfl (nd.sublist<|List.take_sublist _ _) (cZ<|by exact zb1 l rfl) (fE _) (λQ q=> ?_) (λQ X q=> ?_) ?_
  ·exact⟨rfl,q⟩
  ·dsimp only[aD,aG,Qa,aJ,aB,aA,aL];rw[show tg0 (dN y) (Ja ["start"])=Jb by unfold tg0;rw[d7];rfl];exact q
  ·dsimp only[aK,Qa,aM,aB,aA];refine hM ?_
   (dsimp only[aG,Qa,aJ,aB,aA,aL,de,b8,aK,aM];refine⟨trivial,?_⟩)
   rw[d7]
   (dsimp only[aA];refine⟨rfl,?_⟩)
   refine⟨by rw[Qd];exact cZ<|by exact zb1 l rfl,m _ ⟨Ja (dN y,Jc),c,?_⟩⟩;have P:=tP (s:=(st.take j,λo0=>Jb)) (a:=y) o Jb;rw[show upd ((st.take j,(λo0=>Jb:Par)):Bs).2 y Jb=λo0=>Jb from by funext z;unfold upd;split<;>rfl] at P;rw[c8 S,QC];exact Ub (λd=>(Nb "near" b1 (md Nd.key (nearG ps) ns)<|Nb "counts" b2 (dCt ps x)<|Nb "starts" c (D.list<|st.map dN)<|Nb "banned" Y (dBn ban)<|Nb "came" Jc d<|Nb "waiting" Jc (D.list<|(st.take j).map dN++[dN y])<|Nb "start" Jc (dN y)<|No "at" Jb<|No "here" Jb<|No "other" Jb<|No "place" Jb<|[])) P
 rintro L ⟨W,c,rfl⟩;rw[Kl];refine ip ?_;refine aZ ?_;dsimp only[aN,bq,aF,aK,Qa,aM,aB,aA];refine iX rfl 18 ?_;refine fJ (λk L=>X6 λ(i:Nat) (s:Bs) (B:Bool) (R A V:Option (D×Bool))=>A5 (k+i=17) (i<=s.1.length) (Bfs (bn ban ps) x st h w s) (bfs (bn ban ps) x k i s=bfsF (bn ban ps) x st)<|L=(Nb "near" B (md Nd.key (nearG ps) ns)<|Nb "counts" b2 (dCt ps x)<|Nb "starts" c (.list<|st.map dN)<|Nb "banned" Y (dBn ban)<|Nb "came" Jc (dCm s)<|Nb "waiting" Jc (.list<|s.1.map dN)<|No "start" W<|Nb "at" Jc (.int i)<|No "here" R<|No "other" A<|No "place" V<|[])) ?_ 18 17 _ (by decide) ⟨0,(st,λo0=>Jb),b1,Jb,Jb,Jb,rfl,QN _,H,rfl,rfl⟩;rintro k L ⟨i,s,B,R,A,V,r,hi,b,J,rfl⟩ K m;have l:=b.len
 (dsimp only[bo,bM,bj,bU,aC,aE,bV,aD,aG,Qa,aJ,aB,aA,aL,cg,cD,nk];refine⟨rfl,?_⟩)
 rw[Qd];refine cB (λE=> ?_) λE=> ?_
 rotate_left
 ·have:bfs (bn ban ps) x k i s=s:=uU (by exact QT.mp λq=>E<|Kj.mpr q);rw[this] at J;refine ip ?_;refine cK ?_
  (dsimp only[b8,aK,Qa,aM,aB,aA,aG,aJ,aL,dG];refine⟨rfl,?_⟩)
  rw[J];exact gg.qr kq
 obtain⟨z,T⟩:∃z,s.1[i]? =Ja z:=⟨_,Qf<|by exact Kj.mp E⟩
 obtain⟨k,rfl⟩:∃k',k=k'+1:=⟨k-1,by exact zk1 O U r l E⟩
 rw[yc T] at J;have bF:Bfs (bn ban ps) x st h w ((nbrs (bn ban ps) z).foldl (stp x z) s):=b.fold (λp M=>G p (bn_mem.mp M).1) _ T λf hf=>hf;have pF:=(iw x z (nbrs (bn ban ps) z) s).length_le;have tz:∀y t,tg0 (dN y) t=Jb:=λy t=>by unfold tg0;rw[d7];rfl
 refine aZ ?_;dsimp only[aP,aD,aG,Qa,aJ,aB,aA,aL,bt];refine aS (gr (v:=dN z)<|by rw[Qu,T];rfl) ?_;rw[tz];dsimp only[bq,aF,aK,Qa,aM,aB,aA];refine aZ ?_;dsimp only[bl,aN,aD,aG,Qa,aJ,aB,aA,aL,bB,cm,bq,aF,aK,aM];refine dK rfl ?_;dsimp only[fsts,aC,aH,aW,aE,aI,aU,c7,vW,aD,aG,Qa,aJ,aB,aA,aL,cS,uq];rw[fE,ny];have F:∀u v Z,K (Nb "near" Z (md Nd.key (nearG ps) ns)<|Nb "counts" b2 (dCt ps x)<|Nb "starts" c (.list<|st.map dN)<|Nb "banned" Y (dBn ban)<|Nb "came" Jc (dCm<|(nbrs (bn ban ps) z).foldl (stp x z) s)<|Nb "waiting" Jc (.list<|((nbrs (bn ban ps) z).foldl (stp x z) s).1.map dN)<|No "start" W<|Nb "at" Jc (.int<|(i:Int)+1)<|Nb "here" Jc (dN z)<|No "other" u<|No "place" v<|[]):=λu v Z=>
  m k _ (by exact QG _) ⟨i+1,_,Z,_,_,_,by exact(QQ _ _ _).symm.trans r,by exact zle (Kj.mp E) pF,bF,J,rfl⟩
 by_cases I:z∈ns
 ·rw[l4 c6 I];dsimp only[Al];exact xm G b T (by exact Kg O U) λu v=>F u v _
 ·rw[mM c6 I];dsimp only[Ak,bk,bq,cU];have:=F A V B;rw[l9,N.out z I] at this;exact this
end
structure Way where
 R:List Pl
 L:List Pl
 E:Nd
noncomputable def wayO(w:Way)(k:Nd->Pl->Way):Option (Nd×Pl)->Way
 |none=>w
 |some e=>k e.1 e.2
noncomputable def wayF(s:Bs):Nat->Nd->Way
 |0,y=>⟨[],[],y⟩
 |k+1,y=>wayO ⟨[],[],y⟩ (λz p=>bif y.isR then⟨(wayF s k z).R,p::(wayF s k z).L,(wayF s k z).E⟩ else⟨p::(wayF s k z).R,(wayF s k z).L,(wayF s k z).E⟩) (s.2 y)
theorem kh{s:Bs}(h:s.2 y=Jb):wayF s k y=⟨[],[],y⟩:=by
 induction k using Nat.casesOn with
 |zero=>rfl
 |succ k=>show wayO _ _ (s.2 y)=_;rw[h];rfl
theorem j6{s:Bs}{y z:Nd}(h:s.2 y=Ja (z,p)):wayF s (k+1) y=bif y.isR then⟨(wayF s k z).R,p::(wayF s k z).L,(wayF s k z).E⟩ else⟨p::(wayF s k z).R,(wayF s k z).L,(wayF s k z).E⟩:=by
 show wayO _ _ (s.2 y)=_;rw[h];rfl
noncomputable def ind(p:Prop)[Decidable p]:Int:=if p then 1 else 0
theorem eR{p:Prop}[Decidable p](h:p):ind p=1:=Y8 h
theorem dc{p:Prop}[Decidable p](h:¬p):ind p=0:=Y7 h
noncomputable abbrev cR(l:List Pl)(i:Nat):Int:=(l.countP λp=>decide (p.1=i):Nat)
noncomputable abbrev cC(l:List Pl)(i:Nat):Int:=(l.countP λp=>decide (p.2=i):Nat)
theorem lD(p:Pl)(l:List Pl)(i:Nat):cR (p::l) i=cR l i+ind (p.1=i):=by
 unfold cR ind;rw[List.countP_cons];by_cases h:p.1=i
 ·rw[Y8 h,Y8 (Y4 h)];exact rfl
 ·rw[Y7 h,Y7 (by simpa using h)];exact rfl
theorem lP(p:Pl)(l:List Pl)(i:Nat):cC (p::l) i=cC l i+ind (p.2=i):=by
 unfold cC ind;rw[List.countP_cons];by_cases h:p.2=i
 ·rw[Y8 h,Y8 (Y4 h)];exact rfl
 ·rw[Y7 h,Y7 (by simpa using h)];exact rfl
structure WayOK(ps:List Pl)(x:Pl->Int)(st:List Nd)(s:Bs)(j:Nat)(y:Nd)(W:Way):Prop where
 e:W.E∈st
 r:∀p∈W.R,p∈ps
 l:∀p∈W.L,p∈ps/\0<x p
 nd:W.L.Nodup
 at_:∀p∈W.L,∃i,i<=j/\s.1[i]? =Ja (.r p.1)
 row:∀i,cR W.R i-cR W.L i=ind (W.E= .r i)-ind (y= .r i)
 col:∀i,cC W.R i-cC W.L i=ind (y= .c i)-ind (W.E= .c i)
theorem vQ{ps:List Pl}{y z:Nd}{p:Pl}(h:(y,p)∈nbrs ps z):p∈ps/\((y= .c p.2/\z= .r p.1)\/(y= .r p.1/\z= .c p.2)):=by
 induction z with
 |r i=>
  obtain⟨q,N,Y⟩:=Qi.mp h;cases Y;obtain⟨J,w⟩:=Qj.mp N;exact⟨J,.inl ⟨rfl,by rw[Y6 w]⟩⟩
 |c i=>
  obtain⟨q,N,Y⟩:=Qi.mp h;cases Y;obtain⟨J,w⟩:=Qj.mp N;exact⟨J,.inr ⟨rfl,by rw[Y6 w]⟩⟩
theorem oy{ps:List Pl}{x:Pl->Int}{s:Bs}(b:Bfs ps x st h w s):∀ (k j:Nat) (y:Nd),s.1[j]? =Ja y->j<k->WayOK ps x st s j y (wayF s k y)
 |0=>λj y o0 M=>absurd M<|Kw _
 |k+1=>λj y Q M=>by
  rcases b.par j y Q with⟨N,Y⟩|⟨z,p,i,N,Y,J,O,B⟩
  ·rw[kh N];exact⟨Y,λp D=>(bN D),λp D=>(bN D),.nil,λp D=>(bN D),λi=>(YB _).symm,λi=>(YB _).symm⟩
  ·have W:=oy b k i z J (by exact zll Y<|zs M);rw[j6 N];generalize wayF s k z=V at W ⊢;obtain⟨D,⟨rfl,rfl⟩|⟨rfl,rfl⟩⟩:=vQ O
   ·show WayOK ps x st s j (.c p.2) ⟨p::V.R,V.L,V.E⟩;refine⟨W.e,λq o=> ?_,W.l,W.nd,λq o=> ?_,λm=> ?_,λm=> ?_⟩
    ·cases o with
     |head=>exact D
     |tail _ o=>exact W.r q o
    ·obtain⟨G,C,S⟩:=W.at_ q o;exact⟨G,by exact zle C<|KJ Y,S⟩
    ·have:=W.row m;dsimp only;rw[lD,dc (p:=Nd.c p.2= .r m) (λq=>nomatch q)];by_cases q:p.1=m
     ·subst q;rw[eR (p:=Nd.r p.1= .r p.1) rfl] at this;rw[eR (p:=p.1=p.1) rfl];exact zw1 this
     ·rw[dc (p:=Nd.r p.1= .r m) (λz=>q<|Nd.r.inj z)] at this;rw[dc q];exact zw2 this
    ·have:=W.col m;dsimp only;rw[lP];rw[dc (p:=Nd.r p.1= .c m) (λq=>nomatch q)] at this;by_cases q:p.2=m
     ·subst q;rw[eR (p:=Nd.c p.2= .c p.2) rfl,eR (p:=p.2=p.2) rfl];exact zw5 this
     ·rw[dc (p:=Nd.c p.2= .c m) (λz=>q<|Nd.c.inj z),dc q];exact zw2 this
   ·show WayOK ps x st s j (.r p.1) ⟨V.R,p::V.L,V.E⟩;have hx:0<x p:=by
     have B:(Nd.isR (.c p.2)||decide (x p>0))=Jc:=B;exact Y6 B
    refine⟨W.e,W.r,λq o=> ?_,QA.mpr ⟨λq=> ?_,W.nd⟩,λq o=> ?_,λm=> ?_,λm=> ?_⟩
    ·cases o with
     |head=>exact⟨D,hx⟩
     |tail _ o=>exact W.l q o
    ·obtain⟨G,C,S⟩:=W.at_ p q;have:=(List.getElem?_inj (QK.mp Q).1 b.nd).mp (Q.trans S.symm);exact KG _<|zll Y (zle (Kd this) C)
    ·cases o with
     |head=>exact⟨j,Qz _,Q⟩
     |tail _ o=>obtain⟨G,C,S⟩:=W.at_ q o;exact⟨G,by exact zle C<|KJ Y,S⟩
    ·have:=W.row m;dsimp only;rw[lD];rw[dc (p:=Nd.c p.2= .r m) (λq=>nomatch q)] at this;by_cases q:p.1=m
     ·subst q;rw[eR (p:=Nd.r p.1= .r p.1) rfl,eR (p:=p.1=p.1) rfl];exact zw3 this
     ·rw[dc (p:=Nd.r p.1= .r m) (λz=>q<|Nd.r.inj z),dc q];exact zw4 this
    ·have:=W.col m;dsimp only;rw[lP,dc (p:=Nd.r p.1= .c m) (λq=>nomatch q)];by_cases q:p.2=m
     ·subst q;rw[eR (p:=Nd.c p.2= .c p.2) rfl] at this;rw[eR (p:=p.2=p.2) rfl];exact zw7 this
     ·rw[dc (p:=Nd.c p.2= .c m) (λz=>q<|Nd.c.inj z)] at this;rw[dc q];exact zw4 this
def incs(δ:Int)(R:List Pl)(x:Pl->Int):Pl->Int:=R.foldl (λx p=>upd x p (x p+δ)) x
noncomputable def sumOn(f:Pl->Bool)(ps:List Pl)(x:Pl->Int):Int:=((ps.filter f).map x).sum
theorem mu{f:Pl->Bool}{ps:List Pl}{x y:Pl->Int}(h:∀p∈ps,x p=y p):sumOn f ps x=sumOn f ps y:=by
 unfold sumOn;rw[Qo λp D=>h p (Qj.mp D).1]
theorem cw(f:Pl->Bool)(q:Pl)(ps:List Pl)(x:Pl->Int):sumOn f (q::ps) x=(if f q then x q else 0)+sumOn f ps x:=by
 unfold sumOn;by_cases h:f q=Jc
 ·rw[QX h,Y8 h];rfl
 ·rw[QY h,Y7 h,Wj]
theorem fP{f:Pl->Bool}{x:Pl->Int}:∀ {ps:List Pl},ps.Nodup->p∈ps->sumOn f ps (upd x p (x p+δ))=sumOn f ps x+if f p then δ else 0:=λ{ps}=>by
 induction ps with
 |nil=>exact λo0 h=>bN h
 |cons q ps i=>
  intro nd D;obtain⟨Y,I⟩:=QA.mp nd;rw[cw,cw];by_cases e:q=p
  ·subst e;rw[mu (y:=x) λr n=>b9 _ _ λ(z:r=q)=>Y<|z▸n,bO];by_cases z:f q=Jc
   ·rw[Y8 z,Y8 z,Y8 z];exact Int.add_right_comm _ _ _
   ·rw[Y7 z,Y7 z,Y7 z,QW]
  ·rw[b9 _ _ e,i I ((QB.mp D).resolve_left λz=>e z.symm)];exact(KS _ _ _).symm
theorem eQ{f:Pl->Bool}{ps:List Pl}(nd:ps.Nodup):∀ {R:List Pl} {x:Pl->Int},(∀p∈R,p∈ps)->sumOn f ps (incs δ R x)=sumOn f ps x+δ*(R.countP f:Nat)
 |[],x,_=>by show _=_+δ*0;rw[Int.mul_zero,QW];rfl
 |p::R,x,h=>by
  show sumOn f ps (incs δ R<|upd x p (x p+δ))=_;rw[eQ nd λq o=>h q<|.tail _ o,fP nd<|h p (.head _),List.countP_cons]
  split
  ·rw[Int.natCast_add,Int.mul_add];show _=_+(_+δ*1);exact zr10 _ _ _
  ·rw[Nat.add_zero];exact Ub (· +_)<|QW _
theorem lT(h:0<=δ):∀ {R:List Pl} {x:Pl->Int} (q:Pl),x q<=incs δ R x q
 |[],x,q=>QV _
 |p::R,x,q=>by
  refine QE ?_<|lT h (R:=R) (x:=upd x p<|x p+δ) q;by_cases e:q=p
  ·subst e;rw[bO];exact KD h
  ·rw[b9 _ _ e];exact QV _
theorem er:∀ {R:List Pl} {x:Pl->Int} {q:Pl},q∉R->incs δ R x q=x q
 |[],x,q,_=>rfl
 |p::R,x,q,h=>(er (R:=R) (x:=upd x p (x p+δ)) λz=>h (.tail _ z)).trans (b9 _ _ λ(z:q=p)=>h (z▸ .head _))
theorem mQ:∀ {R:List Pl} {x:Pl->Int} {q:Pl},R.Nodup->q∈R->incs δ R x q=x q+δ:=λ{R}=>by
 induction R with
 |nil=>exact λo0 h=>bN h
 |cons p R i=>
  intro x q nd h;obtain⟨n,z⟩:=QA.mp nd;show incs δ R (upd x p<|x p+δ) q=_;by_cases e:q=p
  ·subst e;rw[er n,bO]
  ·rw[i z ((QB.mp h).resolve_left e),b9 _ _ e]
theorem lm(δ:Int){R:List Pl}(x:Pl->Int)(h:R[j]? =Ja p):incs δ (R.take (j+1)) x=upd (incs δ (R.take j) x) p (incs δ (R.take j) x p+δ):=jm _ x h
theorem wU{xs:List Nd}(nd:xs.Nodup):((xs.filter λy=>y.isR==b).map Nd.no).Nodup:=by
 rw[QU,Wu];refine(QU.mp nd).filter _|>.imp_of_mem λ{u v} p hv h q=>h ?_
 have N:(u.isR==b)=Jc:=(Qj.mp p).2;have Y:(v.isR==b)=Jc:=(Qj.mp hv).2;have J:=Y9 N;have w:=Y9 Y
 rcases u with⟨⟩<;>rcases v with⟨⟩<;>first|(subst J;cases w;done)|(subst J;cases w;done)|(have:_=_:=q;cases this;rfl)
theorem rI(y:Nd)(t:Tag):tg0 (dN y) t=Jb:=by unfold tg0;rw[d7];rfl
theorem s8{L:Type}[DecidableEq L]{xs:List L}{x:L}(h:x∈xs):withx xs x=xs:=Y8 h
theorem tV{ps:List Pl}{x:Pl->Int}{p:Pl}(h:p∈ps)(v:Int):md pkey (upd (λp=>D.int (x p)) p (.int v)) (withx ps p)=dCt ps (upd x p v):=by
 rw[s8 h,my D.int x p v]
noncomputable def wB(b:Bool):String:=bif b then "row" else "column"
noncomputable def mkN(b:Bool)(k:Nat):Nd:=bif b then .r k else .c k
theorem xu{y:Nd}(h:y.isR=b):mkN b y.no=y:=by subst h;rcases y with⟨⟩<;>rfl
theorem r9(b:Bool)(k:Nat):(mkN b k).no=k/\(mkN b k).isR=b:=by rcases b with⟨⟩<;>exact⟨rfl,rfl⟩
theorem xn(y:Nd)(b:Bool):D.eqv (.str y.wd) (.str (wB b))=(y.isR==b):=by
 induction b with
 |true=>exact(pJ y).trans (by cases y.isR<;>rfl)
 |false=>exact(qv y).trans (by cases y.isR<;>rfl)
theorem xh(b:Bool):D.okd 40 (.str (wB b))=Jc:=by
 induction b with
 |true=>exact l6
 |false=>exact lz
def numF(b:Bool)(m:Nat)(xs:List Nd):List Nat:=(Qc m).filter λk=>decide<|mkN b k∈xs
theorem u9{xs:List Nd}(nd:xs.Nodup)(L:∀y∈xs,y.isR=b->y.no<m){j:List Int}(D:j.Perm ((xs.filter λy=>y.isR==b).map λy=>(y.no:Int)))(s:j.Pairwise (· <= ·)):j=(numF b m xs).map λ(k:Nat)=>(k:Int):=by
 have Y:((xs.filter λy=>y.isR==b).map λy=>(y.no:Int)).Nodup:=by
  rw[show((xs.filter λy=>y.isR==b).map λy=>(y.no:Int))=((xs.filter λy=>y.isR==b).map Nd.no).map λ(k:Nat)=>(k:Int) from by rw[Qx];rfl];rw[QU,Wu];exact(QU.mp<|wU nd).imp λh q=>h<|Wr.mp q
 have r:((numF b m xs).map λ(k:Nat)=>(k:Int)).Pairwise (· < ·):=by
  rw[Wu];exact(List.pairwise_lt_range.filter _).imp λh=>Kj.mpr h
 have z:((numF b m xs).map λ(k:Nat)=>(k:Int)).Nodup:=QU.mpr (r.imp λh=>Int.ne_of_lt h);refine List.Perm.eq_of_pairwise (le:=(· <= ·)) (λa b o0 o0 N p=>Wd N p) s (r.imp λh=>WC h)<|D.trans ((List.perm_ext_iff_of_nodup Y z).mpr λa=> ?_);rw[Qi,Qi]
 constructor
 ·rintro ⟨y,W,rfl⟩;obtain⟨N,p⟩:=Qj.mp W;have p:=Y9 p;exact⟨y.no,Qj.mpr ⟨Qh.mpr<|L y N p,Y4<|by rw[xu p];exact N⟩,rfl⟩
 ·rintro ⟨k,M,rfl⟩;have N:=Y6 (Qj.mp M).2;exact⟨mkN b k,Qj.mpr ⟨N,by rw[(r9 b k).2];exact beq_self_eq_true b⟩,by rw[(r9 b k).1]⟩
theorem uF(xs:List Nd):(xs.map Nd.key).map keyDd=xs.map dN:=by
 rw[Qx];refine Qo λy o0=> ?_
 rcases y with⟨⟩<;>rfl
theorem up(y:Nd):y.key.length=2:=by rcases y with⟨⟩<;>rfl
section
variable{C:Cx}{mg mb:Jq->Option Jf}{n:Nat}{Q:D->Bool->Prop}{X:DX}
theorem j4(e:Env1 C G1 mg mb){s:Bs}(nd:s.1.Nodup)(h:s.1.length<=16)(L:∀y∈s.1,y.isR=b->y.no<m)(k:Q (dNs (numF b m s.1)) Jc):aR (aO C (n+1)) "numbers_of" [(dCm s,b1),(.str (wB b),b2)] Q X:=by
 refine e.fn eK (by simp[tab]) rfl λl c P PX g=> ?_;dsimp only[eK];dsimp only[br,ci,bD];refine b0 ?_
 (dsimp only[bj,qF,aF,aC,aE,bV];refine⟨rfl,?_⟩)
 refine cG rfl ?_
 (dsimp only[fsts,de,aC,aH,aW,aE,aI,aU,c7,bj,iS,bV,aD,aG,Qa,aB,aA,aL,cS,y5,bk,cU];refine⟨rfl,?_⟩)
 refine⟨⟨by rw[Qd];exact dX<|by exact zb2 h rfl,λq o=> ?_⟩,?_⟩
 ·obtain⟨y,o0,rfl⟩:=Qi.mp o;rw[up];exact dX<|by decide
 rw[uF];refine cY dN (λy=> .int (y.no:Int)) (λy=>y.isR==b) (λy W=> ?_) ?_
 ·rw[zX];dsimp only[bp,Ai,jH,aM,Qa,aK,aB,aA,bK];refine⟨λT Y=> ?_,λo0 K k=> ?_⟩
  ·dsimp only[tstD];dsimp only[bo,bM,dy,deq,aD,aJ,Qa,aG,aA,aB,aL];refine⟨⟨oJ y,xh b⟩,?_⟩;rw[xn];exact Y
  ·dsimp only[elD];dsimp only[aD,aJ,Qa,aG,aB,aA,aL,bB];exact k
 ·refine eD (fO _ _) ?_;refine⟨?_,λj N p=> ?_⟩
  ·rw[Qd];exact Kh (Ku _ _)<|by exact zb1 h rfl
  ·rw[u9 nd L N p,Qx];exact g.qr k
theorem tZ(e:Env1 C G1 mg mb){ps:List Pl}{x:Pl->Int}{st:List Nd}{h w:Nat}{s:Bs}(b:Bfs ps x st h w s)(m:h+w<=16){j:Nat}{y:Nd}(S:s.1[j]? =Ja y){b1 b2:Bool}(q:Q (.tup [.list ((wayF s 17 y).R.map dP),.list ((wayF s 17 y).L.map dP),dN (wayF s 17 y).E]) Jc):
  aR (aO C<|n+1) "way_to" [(dCm s,b1),(dN y,b2)] Q X:=by
 refine e.fn iT (by simp[tab]) rfl λP I G PX g=> ?_;dsimp only[iT];dsimp only[br,ci,bD];refine aZ ?_
 (dsimp only[bv,fsts,dnew,aE,aI,aX,aU,bq,aF,aK,Qa,aM,aB,aA];refine⟨by decide,?_⟩)
 refine aZ ?_
 (dsimp only[bv,fsts,dnew,aE,aI,aX,aU,bq,aF,aK,Qa,aM,aB,aA];refine⟨by decide,?_⟩)
 refine aZ ?_;dsimp only[aD,aG,Qa,aJ,aB,aA,aL];rw[rI];dsimp only[bq,aF,aK,Qa,aM,aB,aA];have H:=b.len;have c:j<s.1.length:=(QK.mp S).1;refine iX rfl 18 ?_;refine fJ (λk L=>X6 λ(f:Nat) (z:Nd) (F a:List Pl) (u A:Option (D×Bool))=>A6 (k<f) (s.1[k]? =Ja z) (f<=17) (F.length+f<=17/\a.length+f<=17) (wayF s 17 y=⟨F++(wayF s f z).R,a++(wayF s f z).L,(wayF s f z).E⟩)<|L=(Nb "came" b1 (dCm s)<|Nb "goal" b2 (dN y)<|Nb "raised" Jc (.list<|F.map dP)<|Nb "lowered" Jc (.list<|a.map dP)<|Nb "here" Jc (dN z)<|No "ahead" u<|No "place" A<|[])) ?_ 18 j _ (by exact zll c<|zle H (zb2 m rfl)) ⟨17,y,[],[],Jb,Jb,by exact zll c<|zle H (zb2 m rfl),S,Qz _,⟨by simp,by simp⟩,rfl,rfl⟩;rintro k L ⟨f,z,F,a,u,A,W,T,E,⟨l,U⟩,d,rfl⟩ K v;have Z:=QJ T;dsimp only[et,bM,aP,aD,aG,Qa,aJ,aB,aA,aL];refine aS (ct c6 (fE z) Z) ?_;skip
 rcases b.par k z T with⟨N,Y⟩|⟨o,p,i,N,Y,J,O,M⟩
 ·rw[N];rw[kh N,QI,QI] at d;rw[d] at q;refine⟨rfl,?_⟩;dsimp only[dV,D.isNone];dsimp only[fN,aB];refine ip ?_;refine cK ?_
  (dsimp only[dS,c9,aY,dZ,aX,b8,aK,Qa,aM,aB,aA,aG,aJ,aL,bC];refine⟨rfl,rfl,?_⟩)
  rw[d7]
  (dsimp only[aA];refine⟨by decide,?_⟩)
  exact g.qr q
 ·rw[N];refine⟨rfl,?_⟩;dsimp only[dV,D.isNone];dsimp only[mW,aA];obtain⟨f,rfl⟩:∃B,f=B+1:=⟨f-1,by exact zpr W⟩
  rw[j6 N] at d;refine d3 rfl ?_;dsimp only[aP,aD,aG,Qa,aJ,aB,aA,aL,cS];rw[ct c6 (fE z) Z,N];dsimp only[dV];dsimp only[ce,bI,tgl,bw,bz,jH,bK];rw[d7,fb];dsimp only[eW,aA,bq,aF,aK,Qa,aM,aB];refine dJ ?_;dsimp only[bo,bM,dy,deq,bX,aP,aN,aD,aG,Qa,aB,aA,aL];refine aS (qa _) ?_;refine fD ?_;refine⟨⟨oJ z,lz⟩,?_⟩;rw[qv];refine ki (λr=> ?_) λr=> ?_
  ·rw[r] at d;refine hM ?_
   (dsimp only[aG,Qa,aB,aA,aL,de,b8,aK];refine⟨trivial,?_⟩)
   rw[fb]
   (dsimp only[aA];refine⟨rfl,?_⟩)
   refine⟨by rw[Qd];exact cZ<|by exact zb1 (zle (KP _ _) U) rfl,?_⟩;refine ip ?_;refine aZ ?_;dsimp only[aD,aG,Qa,aB,aA,aL];rw[rI];dsimp only[bq,aF,aK,Qa,aB,aA];refine v i _ Y ⟨f,o,F,a++[p],Ja (dN o,Jc),Ja (dP p,Jc),by exact zll Y<|zs W,J,by exact Kc E,⟨by exact Kc l,by rw[QD,WO];exact zle (Kd<|QQ _ _ _) U⟩,?_,?_⟩
   ·rw[Ks];exact d
   ·rw[QC];rfl
  ·rw[r] at d;refine hM ?_
   (dsimp only[aG,Qa,aB,aA,aL,de,b8,aK];refine⟨trivial,?_⟩)
   rw[fb]
   (dsimp only[aA];refine⟨rfl,?_⟩)
   refine⟨by rw[Qd];exact cZ<|by exact zb1 (zle (KP _ _) l) rfl,?_⟩;refine ip ?_;refine aZ ?_;dsimp only[aD,aG,Qa,aB,aA,aL];rw[rI];dsimp only[bq,aF,aK,Qa,aB,aA];refine v i _ Y ⟨f,o,F++[p],a,Ja (dN o,Jc),Ja (dP p,Jc),by exact zll Y<|zs W,J,by exact Kc E,⟨by rw[QD,WO];exact zle (Kd<|QQ _ _ _) l,by exact Kc U⟩,?_,?_⟩
   ·rw[Ks];exact d
   ·rw[QC];rfl
theorem oZ(e:Env1 C G1 mg mb){ps:List Pl}(nd:ps.Nodup)(l:ps.length<=64){x:Pl->Int}{R L:List Pl}(b:∀p∈R,p∈ps)(o:∀p∈L,p∈ps){Q:D->Prop}(T:Q (dCt ps (incs (-a) L (incs a R x)))):
  (aR<|aO C (n+1)).io "move" 0 [(dCt ps x,Jc),(.list<|R.map dP,b1),(.list<|L.map dP,b2),(.int a,b3)] Q:=by
 refine e.fnI mf (by simp[tab]) (x:="counts") rfl (by decide) rfl rfl ?_;dsimp only[mf];dsimp only[br,ci,bD];refine dK rfl ?_;dsimp only[fsts,aC,aH,aW,aE,aI,aU,c7,aD,aG,Qa,aJ,aB,aA,aL,bt,bH,i4,iG,iO,iC,dG,bA,iY,bC,eY,eW,jt,eh,iP,iJ,cU];refine dl dP (λi A=>∃u c,A=(Nb "counts" Jc (dCt ps<|incs a (R.take i) x)<|Nb "raised" c (.list<|R.map dP)<|Nb "lowered" b2 (.list<|L.map dP)<|Nb "amount" b3 (.int a)<|No "place" u<|[])) _ _ ⟨_,_,rfl⟩ ?_ ?_
 ·rintro j p A h ⟨u,c,rfl⟩ K k;rw[lm a x h] at k;have U:=b p<|QJ h;generalize incs a (R.take j) x=x at k ⊢;dsimp only[b5,aK,Qa,aM,aA,aB,bK];refine kK bW (a:=p) (g:=λp=> .int (x p)) (xs:=ps) (dk:=dP p) (dv:= .int (x p+a)) rfl nd (cZ<|by exact zb1 l rfl) (cI p) (λQ q=> ?_) (λQ X q=> ?_) ?_
  ·dsimp only[nu,bl,aD,aG,Qa,aB,aA,aL,bB,aP,cS];refine aS (ct bW (cI p) U) ?_
   (dsimp only[cm];refine⟨rfl,?_⟩)
   exact q
  ·dsimp only[aD,aG,Qa,aA,aB,aL];exact q
  ·dsimp only[aK,Qa,aB,aA];rw[tV U];exact k _ ⟨_,_,rfl⟩
 rintro A ⟨u,c,rfl⟩;rw[Kl];generalize incs a R x=x at T ⊢;refine ip ?_;refine dK rfl ?_;dsimp only[fsts,aC,aH,aW,aE,aI,aU,c7,aD,aG,Qa,aJ,aB,aA,aL,bt,bH,i4,iG,iO,iC,dG,bA,bC,iY,eY,eW,jt,iP,iJ,cU];refine dl dP (λi A=>∃u Z,A=(Nb "counts" Jc (dCt ps<|incs (-a) (L.take i) x)<|Nb "raised" c (.list<|R.map dP)<|Nb "lowered" Z (.list<|L.map dP)<|Nb "amount" b3 (.int a)<|No "place" u<|[])) _ _ ⟨_,_,rfl⟩ ?_ ?_
 ·rintro j p A h ⟨u,Z,rfl⟩ K k;rw[lm (-a) x h] at k;have U:=o p<|QJ h;generalize incs (-a) (L.take j) x=x at k ⊢;dsimp only[b5,aK,Qa,aM,aA,aB,bK];refine kK bW (a:=p) (g:=λp=> .int (x p)) (xs:=ps) (dk:=dP p) (dv:= .int (x p+ -a)) rfl nd (cZ<|by exact zb1 l rfl) (cI p) (λQ q=> ?_) (λQ X q=> ?_) ?_
  ·dsimp only[nu,bl,aD,aG,Qa,aB,aA,aL,bB,aP,cS];refine aS (ct bW (cI p) U) ?_
   (dsimp only[cT];refine⟨rfl,?_⟩)
   rw[Ko];exact q
  ·dsimp only[aD,aG,Qa,aA,aB,aL];exact q
  ·dsimp only[aK,Qa,aB,aA];rw[tV U];exact k _ ⟨_,_,rfl⟩
 rintro A ⟨u,Z,rfl⟩;rw[Kl];exact⟨rfl,T⟩
end
theorem km{r:Nat->Int}:∀ {l:List Nat},l.Nodup->(l.map (upd r i (r i+δ))).sum=(l.map r).sum+if i∈l then δ else 0
 |[]=>λo0=>rfl
 |k::l=>λnd=>by
  obtain⟨n,I⟩:=QA.mp nd;rw[Qw,QH,Qw,QH,km I];by_cases e:k=i
  ·subst e;rw[bO,Y7 n,Y8 (.head _)];exact zr12 _ _ _
  ·rw[b9 _ _ e];by_cases q:i∈l
   ·rw[Y8 q,Y8 (.tail _ q)];exact(KS _ _ _).symm
   ·rw[Y7 q,Y7 (λz=>(QB.mp z).elim (λz=>e z.symm) q)];exact(KS _ _ _).symm
theorem l3{q:Nat}{v:Int}:∀ {l:List Nat},l.Nodup->(l.map λi=>if q=i then v else 0).sum=if q∈l then v else 0
 |[]=>λo0=>rfl
 |k::l=>λnd=>by
  obtain⟨n,I⟩:=QA.mp nd;rw[Qw,QH,l3 I];by_cases e:q=k
  ·subst e;rw[Y8 rfl,Y7 n,Y8 (.head _)];exact QW _
  ·rw[Y7 e];by_cases z:q∈l
   ·rw[Y8 z,Y8 (.tail _ z)];exact Wj _
   ·rw[Y7 z,Y7 (λy=>(QB.mp y).elim e z)];exact rfl
theorem cQ{f:Pl->Nat}{x:Pl->Int}{l:List Nat}(nd:l.Nodup):∀ps:List Pl,(l.map λi=>sumOn (λp=>decide (f p=i)) ps x).sum=sumOn (λp=>decide (f p∈l)) ps x
 |[]=>gO l
 |p::ps=>by
  rw[cw,<-cQ nd ps,show(l.map λi=>sumOn (λp=>decide<|f p=i) (p::ps) x)=l.map λi=>(if f p=i then x p else 0)+sumOn (λp=>decide<|f p=i) ps x from Qo λi o0=> ?_,<-lO,l3 nd]
  ·by_cases h:f p∈l
   ·rw[Y8 h,Y8 (Y4 h)]
   ·rw[Y7 h,Y7 (by simpa using h)]
  ·rw[cw];by_cases h:f p=i
   ·rw[Y8 h,Y8 (Y4 h)]
   ·rw[Y7 h,Y7 (by simpa using h)]
theorem gE{f g:Pl->Bool}{x:Pl->Int}:∀ {ps:List Pl},(∀p∈ps,f p=g p\/x p=0)->sumOn f ps x=sumOn g ps x
 |[]=>λo0=>rfl
 |p::ps=>λh=>by
  rw[cw,cw,gE λq o=>h q (.tail _ o)]
  rcases h p (.head _) with e|e
  ·rw[e]
  ·rw[e];split<;>split<;>rfl
theorem pL{L:Type}{f:L->Int}:∀ {l:List L},(∀a∈l,0<=f a)->(l.map f).sum<=0->∀a∈l,f a=0:=λ{l} h i a T=>by
 induction l with
 |nil=>exact bN T
 |cons b l W=>
  rw[Qw,QH] at i;have N:=h b<|.head _;have p:=fZ λc Z=>h c<|.tail _ Z
  rcases QB.mp T with e|T
  ·rw[e];exact Wd (QE (KD p) i) N
  ·exact W (λc Z=>h c<|.tail _ Z) (QE (Yc N) i) T
theorem mX{f:Nat->Int}{p:Nat->Bool}:∀ {l:List Nat},(∀a∈l,p a=Jd->f a=0)->((l.filter p).map f).sum=(l.map f).sum
 |[]=>λo0=>rfl
 |a::l=>λh=>by
  rw[Qw,QH];have i:=mX λb v=>h b<|.tail _ v
  induction D:p a with
  |true=>rw[QX D,Qw,QH,i]
  |false=>rw[QY (by rw[D];exact QF),i,h a (.head _) D,Wj]
set_option genCtorIdx false in
inductive Out where
 |tab(x:Pl->Int)
 |no(pa pb:Nat->Bool)
noncomputable abbrev Out.ctorIdx(x:Out):Nat:=Out.casesOn x (λo0=>0) (λo0 o0=>1)
noncomputable def stF(h:Nat)(r:Nat->Int):List Nd:=((Qc h).filter λi=>decide (r i>0)).map .r
abbrev cameF(ps:List Pl)(h:Nat)(x:Pl->Int)(r:Nat->Int):Bs:=bfsF ps x<|stF h r
def goalF(w:Nat)(c:Nat->Int)(B:Bs):List Nat:=(numF Jd w B.1).filter λj=>decide<|c j>0
abbrev wayG(B:Bs)(g:Nat):Way:=wayF B 17<|.c g
def amt(x:Pl->Int)(r c:Nat->Int)(W:Way)(g:Nat):Int:=lmin (r W.E.no::c g::W.L.map x)
noncomputable def outG(o:Out)(k:Nat->Out):List Nat->Out
 |[]=>o
 |g::_=>k g
noncomputable def outF(ps:List Pl)(h w:Nat):Nat->(Pl->Int)->(Nat->Int)->(Nat->Int)->Out
 |0,x,_,_=> .tab x
 |k+1,x,r,c=>if((Qc h).map r).sum>0 then
   outG (.no (λi=>decide (Nd.r i∈(cameF ps h x r).1)) (λj=>decide (Nd.c j∈(cameF ps h x r).1))) (λg=>outF ps h w k (incs (-amt x r c (wayG (cameF ps h x r) g) g) (wayG (cameF ps h x r) g).L (incs (amt x r c (wayG (cameF ps h x r) g) g) (wayG (cameF ps h x r) g).R x))
    (upd r (wayG (cameF ps h x r) g).E.no (r (wayG (cameF ps h x r) g).E.no-amt x r c (wayG (cameF ps h x r) g) g)) (upd c g (c g-amt x r c (wayG (cameF ps h x r) g) g))) (goalF w c (cameF ps h x r))
  else .tab x
abbrev rowS(ps:List Pl)(x:Pl->Int)(i:Nat):Int:=sumOn (λp=>decide (p.1=i)) ps x
abbrev colS(ps:List Pl)(x:Pl->Int)(j:Nat):Int:=sumOn (λp=>decide (p.2=j)) ps x
structure Fill(ps:List Pl)(h w:Nat)(R C:Nat->Int)(x:Pl->Int)(r c:Nat->Int):Prop where
 x0:∀p∈ps,0<=x p
 r0:∀i,i<h->0<=r i
 c0:∀j,j<w->0<=c j
 row:∀i,i<h->rowS ps x i+r i=R i
 col:∀j,j<w->colS ps x j+c j=C j
 eq:((Qc h).map r).sum=((Qc w).map c).sum
structure Sz(ps:List Pl)(h w:Nat):Prop where
 nd:ps.Nodup
 mem:∀p∈ps,p.1<h/\p.2<w
 h8:h<=8
 w8:w<=8
def Good(ps:List Pl)(h w:Nat)(R C:Nat->Int):Out->Prop
 | .tab x=>(∀p∈ps,0<=x p)/\(∀i,i<h->rowS ps x i=R i)/\∀j,j<w->colS ps x j=C j
 | .no a b=>(∀p∈ps,a p.1=Jc->b p.2=Jc)/\0<(((Qc h).filter a).map R).sum-(((Qc w).filter b).map C).sum
theorem wP(h:Nat)(r:Nat->Int):(stF h r).Nodup:=by
 unfold stF;rw[QU,Wu];exact((QU.mp Km).filter _).imp λh q=>h<|Nd.r.inj q
theorem rt{r:Nat->Int}(W:y∈stF h r):∃i,y= .r i/\i<h/\0<r i:=by
 obtain⟨i,t,rfl⟩:=Qi.mp W;obtain⟨N,p⟩:=Qj.mp t;exact⟨i,rfl,Qh.mp N,Y6 p⟩
theorem sD{r:Nat->Int}:∀y∈stF h r,y∈allN h w:=λy W=>by
 obtain⟨i,rfl,N,o0⟩:=rt W;exact Ql _<|Qi.mpr ⟨i,Qh.mpr N,rfl⟩
section
variable{ps:List Pl}{h w:Nat}{R C:Nat->Int}{x:Pl->Int}{r c:Nat->Int}
theorem lA(S:Sz ps h w):Bfs ps x (stF h r) h w (cameF ps h x r)/\∀z∈(cameF ps h x r).1,∀e∈nbrs ps z,okE x z e.2=Jc->e.1∈(cameF ps h x r).1:=
 oH S.mem (Kg S.h8 S.w8) 17 0 _ (.start (wP h r) sD) (λi z t=>absurd t<|Kw _) (QN _) (by decide)
theorem y9(S:Sz ps h w)(F:Fill ps h w R C x r c)(s:((Qc h).map r).sum>0)(g:goalF w c (cameF ps h x r)=[]):
  Good ps h w R C (.no (λi=>decide<|Nd.r i∈(cameF ps h x r).1) λj=>decide<|Nd.c j∈(cameF ps h x r).1):=by
 obtain⟨b,M⟩:=lA (x:=x) (r:=r) S;generalize cameF ps h x r=B at b M g ⊢;have Z:∀p∈ps,Nd.r p.1∈B.1->Nd.c p.2∈B.1:=λp D n=>M _ n (.c p.2,p) (Qi.mpr ⟨p,Qj.mpr ⟨D,Y4 rfl⟩,rfl⟩) rfl;have J:∀p∈ps,0<x p->Nd.c p.2∈B.1->Nd.r p.1∈B.1:=λp D hx n=>M _ n (.r p.1,p) (Qi.mpr ⟨p,Qj.mpr ⟨D,Y4 rfl⟩,rfl⟩)<|decide_eq_true hx;refine⟨λp D n=>Y4<|Z p D (Y6 n),?_⟩;have A:((Qc h).filter λi=>decide<|Nd.r i∈B.1).Nodup:=Km.filter _;have O:((Qc w).filter λj=>decide<|Nd.c j∈B.1).Nodup:=Km.filter _;have T:(((Qc h).filter λi=>decide<|Nd.r i∈B.1).map R).sum=sumOn (λp=>decide<|p.1∈(Qc h).filter λi=>decide<|Nd.r i∈B.1) ps x+((Qc h).map r).sum:=by
  rw[<-cQ (f:=(·.1)) A,<-mX (p:=λi=>decide<|Nd.r i∈B.1) (f:=r) (l:=Qc h),lO]
  ·exact Ub Ww<|Qo λi t=>(F.row i<|Qh.mp (Qj.mp t).1).symm
  ·intro i t D;have N:=F.r0 i (Qh.mp t)
   rcases Int.lt_or_eq_of_le N with q|q
   ·exact absurd (b.has _<|Qi.mpr ⟨i,Qj.mpr ⟨t,Y4 q⟩,rfl⟩)<|of_decide_eq_false D
   ·exact q.symm
 have e:(((Qc w).filter λj=>decide<|Nd.c j∈B.1).map C).sum=sumOn (λp=>decide<|p.2∈(Qc w).filter λj=>decide<|Nd.c j∈B.1) ps x:=by
  rw[<-cQ (f:=(·.2)) O];refine Ub Ww (Qo λj H=> ?_);have K:=Qh.mp (Qj.mp H).1;have N:=F.c0 j K;have Y:¬c j>0:=λq=>by
   have:j∈goalF w c B:=Qj.mpr ⟨H,Y4 q⟩;rw[g] at this;cases this
  have:=F.col j K;show C j=colS ps x j;exact zr11 N Y this
 have X:sumOn (λp=>decide<|p.1∈(Qc h).filter λi=>decide<|Nd.r i∈B.1) ps x=sumOn (λp=>decide<|p.2∈(Qc w).filter λj=>decide<|Nd.c j∈B.1) ps x:=by
  refine gE λp D=> ?_;obtain⟨o,U⟩:=S.mem p D
  rcases Int.lt_or_eq_of_le (F.x0 p D) with q|q
  ·refine .inl<|decide_eq_decide.mpr ?_;rw[Qj,Qj,Qh,Qh,Ua,Ua];exact⟨λz=>⟨U,Z p D z.2⟩,λz=>⟨o,J p D q z.2⟩⟩
  ·exact .inr q.symm
 rw[T,e,X];exact zr9 s
structure Turn(ps:List Pl)(h w:Nat)(R C:Nat->Int)(x:Pl->Int)(r c:Nat->Int)(B:Bs)(g:Nat):Prop where
 gw:g<w
 gB:∃j:Nat,B.1[j]? =Ja (Nd.c g)
 ih:(wayG B g).E= .r (wayG B g).E.no/\(wayG B g).E.no<h
 inR:∀p∈(wayG B g).R,p∈ps
 inL:∀p∈(wayG B g).L,p∈ps
 len:(wayG B g).L.length<=ps.length
 a1:1<=amt x r c (wayG B g) g
 ar:amt x r c (wayG B g) g<=r (wayG B g).E.no
 fill:Fill ps h w R C (incs (-amt x r c (wayG B g) g) (wayG B g).L (incs (amt x r c (wayG B g) g) (wayG B g).R x)) (upd r (wayG B g).E.no (r (wayG B g).E.no-amt x r c (wayG B g) g)) (upd c g<|c g-amt x r c (wayG B g) g)
 less:((Qc h).map (upd r (wayG B g).E.no (r (wayG B g).E.no-amt x r c (wayG B g) g))).sum=((Qc h).map r).sum-amt x r c (wayG B g) g
theorem pq(S:Sz ps h w)(F:Fill ps h w R C x r c)(P:goalF w c (cameF ps h x r)=g::gs):Turn ps h w R C x r c (cameF ps h x r) g:=by
 obtain⟨b,o0⟩:=lA (x:=x) (r:=r) S;generalize cameF ps h x r=B at b P ⊢;have h8:=S.h8;have w8:=S.w8;have m:g∈goalF w c B:=P▸ .head _;obtain⟨E,O⟩:=Qj.mp m;obtain⟨G,o⟩:=Qj.mp E;have v:=Qh.mp G;have u:0<c g:=Y6 O;have X:Nd.c g∈B.1:=Y6 o;obtain⟨j,H⟩:=Yx X;have L:=b.len;have Z:=(QK.mp H).1;have W:=oy b 17 j (.c g) H (by exact zll Z<|zle L (zb2 (Kg h8 w8) rfl));generalize d:wayF B 17 (.c g)=V at W;obtain⟨i,t,l,I⟩:=rt W.e;have n:V.E.no=i:=by rw[t];rfl
 have U:r V.E.no::c g::V.L.map x≠ []:=λq=>nomatch q
 have A:=eO U;have Q:1<=amt x r c V g:=by
  rcases QB.mp A.1 with q|q
  ·unfold amt;rw[q,n];exact I
  ·rcases QB.mp q with q|q
   ·unfold amt;rw[q];exact u
   ·obtain⟨p,D,e⟩:=Qi.mp q;unfold amt;rw[<-e];exact(W.l p D).2
 have J:amt x r c V g<=r V.E.no:=A.2 _<|.head _;have K:amt x r c V g<=c g:=A.2 _<|.tail _ (.head _);have y:∀p∈V.L,amt x r c V g<=x p:=λp D=>A.2 _<|.tail _ (.tail _<|Qi.mpr ⟨p,D,rfl⟩);generalize T:amt x r c V g=a at Q J K y;have s:∀f:Pl->Bool,sumOn f ps (incs (-a) V.L<|incs a V.R x)=sumOn f ps x+a*((V.R.countP f:Nat)-(V.L.countP f:Nat):Int):=λf=>by
  rw[eQ S.nd λp D=>(W.l p D).1,eQ S.nd W.r,Int.mul_sub,Int.neg_mul];exact KS _ _ _
 have less:((Qc h).map (upd r V.E.no<|r V.E.no-a)).sum=((Qc h).map r).sum-a:=by
  rw[Ko,km Km,Y8 (Qh.mpr<|by rw[n];exact l)];exact rfl
 refine⟨v,⟨j,H⟩,?_,?_,?_,?_,?_,?_,?_,?_⟩<;>(try rw[wayG])<;>rw[d]
 ·exact⟨by rw[n];exact t,by rw[n];exact l⟩
 ·exact W.r
 ·exact λp D=>(W.l p D).1
 ·exact sN W.nd λp D=>(W.l p D).1
 ·rw[T];exact Q
 ·rw[T];exact J
 ·rw[T];refine⟨λp D=> ?_,λk M=> ?_,λk M=> ?_,λk M=> ?_,λk M=> ?_,?_⟩
  ·have N:=lT (δ:=a) (by exact QE (by decide) Q) (R:=V.R) (x:=x) p;have Y:=F.x0 p D;by_cases q:p∈V.L
   ·rw[mQ W.nd q];have:=y p q;exact Wv<|QE this N
   ·rw[er q];exact QE Y N
  ·by_cases q:k=V.E.no
   ·subst q;rw[bO];exact Wv J
   ·rw[b9 _ _ q];exact F.r0 k M
  ·by_cases q:k=g
   ·subst q;rw[bO];exact Wv K
   ·rw[b9 _ _ q];exact F.c0 k M
  ·have N:=W.row k;dsimp only[cR] at N;rw[dc (p:=Nd.c g= .r k) (λq=>nomatch q)] at N;have Y:=F.row k M;unfold rowS at Y ⊢;rw[s];by_cases q:k=V.E.no
   ·subst q;rw[bO];rw[eR (by rw[n];exact t)] at N;rw[show((V.R.countP λp=>decide (p.1=V.E.no):Nat)-(V.L.countP λp=>decide (p.1=V.E.no):Nat):Int)=1 by exact N,Int.mul_one];exact zr1 Y
   ·rw[b9 _ _ q];rw[dc (λz=>q<|by rw[n];rw[t] at z;exact(Nd.r.inj z).symm)] at N;rw[show((V.R.countP λp=>decide (p.1=k):Nat)-(V.L.countP λp=>decide (p.1=k):Nat):Int)=0 by exact N,Int.mul_zero];exact zr2 Y
  ·have N:=W.col k;dsimp only[cC] at N;rw[dc (p:=V.E= .c k) (λq=>by rw[t] at q;cases q)] at N;have Y:=F.col k M;unfold colS at Y ⊢;rw[s];by_cases q:k=g
   ·subst q;rw[bO];rw[eR rfl] at N;rw[show((V.R.countP λp=>decide (p.2=k):Nat)-(V.L.countP λp=>decide (p.2=k):Nat):Int)=1 by exact N,Int.mul_one];exact zr1 Y
   ·rw[b9 _ _ q];rw[dc (λz=>q (Nd.c.inj z).symm)] at N;rw[show((V.R.countP λp=>decide (p.2=k):Nat)-(V.L.countP λp=>decide (p.2=k):Nat):Int)=0 by exact N,Int.mul_zero];exact zr2 Y
  ·rw[less,show c g-a=c g+ -a from Ko,km Km,Y8<|Qh.mpr v,F.eq];exact rfl
 ·rw[T];exact less
theorem gN(S:Sz ps h w):∀ (f:Nat) (x:Pl->Int) (r c:Nat->Int),Fill ps h w R C x r c->((Qc h).map r).sum.toNat<f->Good ps h w R C (outF ps h w f x r c)
 |0=>λx r c o0 j=>absurd j<|Kw _
 |f+1=>λx r c F j=>by
  show Good ps h w R C (if((Qc h).map r).sum>0 then outG _ _ _ else .tab x);by_cases s:((Qc h).map r).sum>0
  ·rw[Y8 s]
   induction e:goalF w c (cameF ps h x r) using List.casesOn with
   |nil=>exact y9 S F s e
   |cons g y=>
    have T:=pq S F e;refine gN S f _ _ _ T.fill ?_;exact zll (ztn s T.a1 T.less)<|zs j
  ·rw[Y7 s];have z1:=pL (f:=r) (l:=Qc h) (λi t=>F.r0 i<|Qh.mp t) (by exact Kz.mp s);have z2:=pL (f:=c) (l:=Qc w) (λi t=>F.c0 i<|Qh.mp t) (by rw[<-F.eq];exact Kz.mp s);refine⟨F.x0,λi t=> ?_,λi t=> ?_⟩
   ·have:=F.row i t;rw[z1 i (Qh.mpr t)] at this;exact(QW _).symm.trans this
   ·have:=F.col i t;rw[z2 i (Qh.mpr t)] at this;exact(QW _).symm.trans this
end
theorem sJ{G:Gx}{c:DCl}{L:DRho}{K:DRho->Prop}(a:List E)(x:String)(b:List E):dio G c f L K (Ja (a,x,b))=(G.fn f=Jc/\dwes G c a L (λv=>offs x v=Jc/\dOE (λp=>p.2=Jc/\dwes G c b L (λq=>offs x q=Jc/\
   c.io f v.length (lent v++(p.1,Jc)::lent q) λd=>K (L.put x (d,Jc))) λo0 o0=>False) (L.get x)) λo0 o0=>False):=rfl
theorem yi(d:D)(l:List D):D.eqv (.list (d::l)) (.list [])=Jd:=rfl
theorem l2(d:D)(l:List D):dsub (.list (d::l)) (.int 0)=Ja d:=gr (l:=d::l) (j:=0) rfl
theorem ints2{L:Type}(g:L->Int)(a b:Int)(l:List L):dInts (.int a:: .int b::l.map λp=> .int (g p))=Ja (a::b::l.map g):=by
 show((dInts<|l.map λp=> .int (g p)).map (b:: ·)).map (a:: ·)=_;rw[fO];rfl
theorem mV{L:DRho}{d:D}{K:DRho->Prop}:dput L x [] d K=dOE (λo0=>K (L.put x (d,Jc))) (L.get x):=rfl
theorem li{r:Nat->Int}(hi:i<h)(v:Int):D.list ((((Qc h).map r).map D.int).set i (.int v))=dI ((Qc h).map (upd r i v)):=by
 rw[<-List.map_set]
 congr 2
 refine WM λk=> ?_;rw[Ws,Qd,Qr,Y8 hi,Qu,Qu];by_cases q:i=k
 ·subst q;rw[Y8 rfl,Wk hi];show Ja v=Ja (upd r i v i);rw[bO]
 ·rw[Y7 q]
  induction M:(Qc h)[k]? with
  |none=>rfl
  |some m=>
   have L:m=k:=by
    obtain⟨N,p⟩:=QK.mp M;rw[Wa] at p;exact p.symm
   show Ja (r m)=Ja (upd r i v m);rw[b9 _ _ (by rw[L];exact λz=>q z.symm)]
theorem d5{r:Nat->Int}(hi:i<h):dsub (dI ((Qc h).map r)) (.int i)=Ja (.int (r i)):=by
 rw[dD (by rw[Qd,Qr];exact hi),cV _ hi]
theorem y0(c:List (List (Option Int)))(h w:Nat):(psF c h w).Nodup:=by
 refine List.Pairwise.filter _ ?_;show(allF h w).Nodup
 induction h with
 |zero=>exact .nil
 |succ h i=>
  refine Qv.mpr ⟨i,?_,λa T b R q=> ?_⟩
  ·rw[QU,Wu];exact(QU.mp Km).imp λh q=>h (Prod.mk.inj q).2
  ·subst q;obtain⟨j,o0,rfl⟩:=Qi.mp R;exact absurd (allF_mem.mp T).1 (KG _)
theorem gf(y:h<=8)(T:w<=8):(psF c h w).length<=64:=by
 refine Qq (Ku _ _) ?_;rw[gI];exact Yl y T
theorem fw(R:Rect c h w):Sz (psF c h w) h w:=⟨y0 c h w,λp D=>⟨(eV D).1,(eV D).2.1⟩,R.h8,R.w8⟩
def outV(c:List (List (Option Int)))(r s:List Int)(h w:Nat):Out:=outF (psF c h w) h w (((Qc h).map (r1F c r)).sum.toNat+1) (λo0=>0) (r1F c r) (r2F c s)
theorem sA(f:Pl->Bool)(ps:List Pl):sumOn f ps (λo0=>0)=0:=gO _
theorem fill0(V:VOK c r s h w):Fill (psF c h w) h w (r1F c r) (r2F c s) (λo0=>0) (r1F c r) (r2F c s):=
 ⟨λp o0=>QV _,V.n1,V.n2,λi o0=>by rw[rowS,sA,Wj],λi o0=>by rw[colS,sA,Wj],V.eq⟩
theorem j9{y:Nd}(W:y∈allN h w):(y.isR=Jc->y.no<h)/\(y.isR=Jd->y.no<w):=by
 rcases Qt.mp W with q|q
 ·obtain⟨i,t,rfl⟩:=Qi.mp q;exact⟨λo0=>Qh.mp t,λz=>(tf z)⟩
 ·obtain⟨i,t,rfl⟩:=Qi.mp q;exact⟨λz=>(ft z),λo0=>Qh.mp t⟩
theorem xV{ps:List Pl}{x:Pl->Int}{r c:Nat->Int}(s:((Qc h).map r).sum>0)(g:goalF w c (cameF ps h x r)=[]):
  outF ps h w (f+1) x r c= .no (λi=>decide<|Nd.r i∈(cameF ps h x r).1) (λj=>decide<|Nd.c j∈(cameF ps h x r).1):=by
 refine(Y8 s).trans ?_;rw[g];rfl
theorem yM{ps:List Pl}{x:Pl->Int}{r c:Nat->Int}(s:((Qc h).map r).sum>0)(S:goalF w c (cameF ps h x r)=g::gs):
  outF ps h w (f+1) x r c=outF ps h w f (incs (-amt x r c (wayG (cameF ps h x r) g) g) (wayG (cameF ps h x r) g).L (incs (amt x r c (wayG (cameF ps h x r) g) g) (wayG (cameF ps h x r) g).R x))
    (upd r (wayG (cameF ps h x r) g).E.no (r (wayG (cameF ps h x r) g).E.no-amt x r c (wayG (cameF ps h x r) g) g)) (upd c g<|c g-amt x r c (wayG (cameF ps h x r) g) g):=by
 refine(Y8 s).trans ?_;rw[S];rfl
theorem vF{ps:List Pl}{x:Pl->Int}{r c:Nat->Int}(s:¬ ((Qc h).map r).sum>0):outF ps h w (f+1) x r c= .tab x:=by
 exact Y7 s
inductive CtI(ps:List Pl)(h w:Nat)(Rr Cc:Nat->Int)(O:Out)(vw pl nr:D)(k:Nat)(Δ:DRho):Prop
 |mk (x:Pl->Int) (ρ γ:Nat->Int) (f:Nat) (cv cn:Bool) (u1 u2 u3 u4 u5 u6 u7:Option (D×Bool)) (F:Fill ps h w Rr Cc x ρ γ) (hk:((Qc h).map ρ).sum.toNat=k) (hf:k<f) (hO:outF ps h w f x ρ γ=O)
  (e:Δ=(Nb "view" cv vw<|Nb "places" Jd pl<|Nb "near" cn nr<|Nb "counts" Jc (dCt ps x)<|No "place" u7<|Nb "rows" Jc (dI<|(Qc h).map ρ)<|Nb "columns" Jc (dI<|(Qc w).map γ)<|No "came" u1<|No "goals" u2<|No "raised" u3<|No "lowered" u4<|No "start" u5<|No "amount" u6<|[])):CtI ps h w Rr Cc O vw pl nr k Δ
section
variable{C:Cx}{mg mb:Jq->Option Jf}{n:Nat}{Q:D->Bool->Prop}{X:DX}
theorem iq(e:Env1 C G1 mg mb)(V:VOK c r s h w)(Y:∀x,outV c r s h w= .tab x->Q (dCt (psF c h w) x) Jc)
  (W:∀pa pb,outV c r s h w= .no pa pb->X "NoTable" [dNs ((Qc h).filter pa),dNs ((Qc w).filter pb)]):aR (aO C<|n+3) "counts_of" [(.tup [dC c,dI r,dI s],b)] Q X:=by
 refine e.fn fj (by simp[tab]) rfl λcl cu PQ PX G=> ?_;dsimp only[fj];dsimp only[br,ci,bD];have S:=fw V.R;have o:=fill0 V;have l:(psF c h w).length<=64:=gf V.R.h8 V.R.w8;unfold outV at Y W;refine aZ ?_
 (dsimp only[aQ,flags,aC,aH,aW,aE,aI,aU,aP,aN,aD,aG,Qa,aJ,aB,aA,aL,bI,tgl,bw,bC,bz,bA,cz,ce,bt,aT,bH,bZ,bE];refine⟨rfl,?_⟩)
 refine G.hc<|gc e V.R ?_;dsimp only[aA,bt,bq,aF,aK,Qa,aM,aB];generalize psF c h w=ps at S o l Y W ⊢;generalize hR:r1F c r=I at o Y W ⊢;generalize hC:r2F c s=Cc at o Y W ⊢;generalize P:outF ps h w (((Qc h).map I).sum.toNat+1) (λo0=>0) I Cc=O at Y W;have U:h+w<=16:=Kg S.h8 S.w8;refine aZ ?_
 (dsimp only[aQ,flags,aC,aH,aW,aE,aI,aU,aD,aG,Qa,aJ,aB,aA,aL,bt,aT,bH,bZ,bE];refine⟨rfl,?_⟩)
 refine G.hc (tB e l λns N=> ?_);dsimp only[aA,cS,bq,aF,aK,Qa,aM,aB];refine aZ ?_
 (dsimp only[jr,bq,aF,aK,Qa,aM,aB,aA];refine⟨rfl,?_⟩)
 refine dK rfl ?_;dsimp only[fsts,aC,aH,aW,aE,aI,aU,c7,aD,aG,Qa,aJ,aB,aA,aL,bt,bH,i4,iG,iO,iC,gG,bw,bC,bz,bA,iY,dG,jt,eh,iP,iJ,cU];refine dl dP (λi Δ=>∃u,Δ=(Nb "view" b (.tup [dC c,dI r,dI s])<|Nb "places" Jd (.list<|ps.map dP)<|Nb "near" Jc (md Nd.key (nearG ps) ns)<|Nb "counts" Jc (dCt (ps.take i)<|λo0=>0)<|No "place" u<|No "rows" Jb<|No "columns" Jb<|No "came" Jb<|No "goals" Jb<|No "raised" Jb<|No "lowered" Jb<|No "start" Jb<|No "amount" Jb<|[])) _ _ ⟨_,rfl⟩ ?_ ?_
 ·rintro j p Δ v ⟨u,rfl⟩ K kn;have ac:=pY S.nd v;dsimp only[b5,aK,Qa,aM,aB,aA,bK];refine kK bW (a:=p) (g:=λo0=> .int 0) (xs:=ps.take j) (dk:=dP p) (dv:= .int 0) rfl (S.nd.sublist<|List.take_sublist _ _) (cZ<|by rw[WV];exact zl (Wy _ _)<|zb1 l rfl) (cI p) (λQ q=> ?_) (λQ X q=> ?_) ?_
  ·exact⟨rfl,q⟩
  ·dsimp only[aD,aG,Qa,aJ,aB,aA,aL];exact q
  ·dsimp only[aK,Qa,aM,aB,aA];refine kn _ ⟨Ja (dP p,Jc),?_⟩;rw[c8 v,mr ac,show upd (λo0=>D.int 0) p (.int 0)=λo0=>D.int 0 from by funext z;unfold upd;split<;>rfl];rfl
 rintro Δ ⟨u0,rfl⟩;rw[Kl];refine ip ?_;refine d3 rfl ?_
 (dsimp only[aQ,flags,aC,aH,aW,aE,aI,aU,aD,aG,Qa,aJ,aB,aA,aL,bI,tgl,bw,bC,bz,bA,aT,bH,bZ,bE];refine⟨rfl,?_⟩)
 refine G.hc<|qz e V.R V.hr V.hs ?_;dsimp only[aA,bI,tgl,bw,bC,bz,bA,aB,aF,bq,jH,aK,Qa,aM,bK];rw[hR,hC];refine iX rfl (((Qc h).map I).sum.toNat+1) ?_;refine fJ (CtI ps h w I Cc O (.tup [dC c,dI r,dI s]) (.list<|ps.map dP)<|md Nd.key (nearG ps) ns)
  ?_ _ ((Qc h).map I).sum.toNat _ (QG _) ⟨λo0=>0,I,Cc,_,_,_,_,_,_,_,_,_,_,o,rfl,QG _,P,rfl⟩
 rintro k Δ ⟨x,L,t,f,cv,cn,u1,u2,u3,u4,u5,u6,u7,F,hk,hf,P,rfl⟩ K kn;clear o;obtain⟨f,rfl⟩:∃f',f=f'+1:=⟨f-1,by exact zpr hf⟩
 (dsimp only[bo,bM,aN,bj,f5,j0,aC,aE,bV,aD,aG,Qa,aJ,aB,aA,aL,de];refine⟨rfl,?_⟩)
 refine eD (cp _) ?_;refine cB (λA=> ?_) λA=> ?_
 rotate_left
 ·rw[vF A] at P;refine ip ?_;refine cK ?_
  (dsimp only[b8,aK,Qa,aM,aB,aA,aG,aJ,aL,dG];refine⟨rfl,?_⟩)
  exact G.qr<|Y x P.symm
 have J:Bfs ps x (stF h L) h w (bfsF ps x<|stF h L):=(lA (x:=x) (r:=L) S).1;have Z:=J.len;refine aZ ?_
 (dsimp only[aQ,flags,aC,aH,aW,aE,aI,aU,fM,aF,bk,aD,aG,Qa,aJ,aB,aA,aL,cS,aT];refine⟨rfl,?_⟩)
 refine cG rfl ?_
 (dsimp only[fsts,aC,aH,aW,aE,aI,aU,bj,bU,bk,eA,eP,bV,aD,aG,Qa,aJ,aB,aA,aL,cg,cD];refine⟨rfl,?_⟩)
 rw[Qd,Qd,Qr];refine⟨rg S.h8,fx (λk=>dN<|.r k) (λi=>decide<|L i>0) (λi hi=> ?_) ?_⟩
 ·dsimp only[bp,cr,b5,aM,Qa,aK,aB,aA,bK];refine⟨λT hT=> ?_,λo0 K k=> ?_⟩
  ·dsimp only[tstD];dsimp only[bo,bM,aN,aP,aD,aJ,Qa,aG,aB,aA,aL];refine aS (d5 hi) ?_;dsimp only[j0];exact hT
  ·dsimp only[elD];dsimp only[bR,fsts,dtup,aC,aH,aY,aW,aE,aI,aX,aU,aD,aJ,Qa,aG,aB,aA,aL,bB,bk,bX];refine fV ?_
   (dsimp only[bk];refine⟨by decide,?_⟩)
   exact k
 rw[show(((Qc h).filter λi=>decide<|L i>0).map λk=>dN<|.r k)=(stF h L).map dN from by rw[stF,Qx];rfl];dsimp only[aF,bk,bH,bZ,f0,bE];refine G.hc<|jf (ban:=Jb) e N S.mem S.h8 S.w8 (wP h L) sD ?_;rw[uO];dsimp only[aA,cS,bq,aF,aK,Qa,aM,aB];generalize hB:bfsF ps x (stF h L)=B at J Z ⊢;refine aZ ?_;refine cG rfl ?_
 (dsimp only[fsts,aC,aH,aW,aE,aI,aU,c7,aQ,flags,bX,aD,aG,Qa,aJ,aB,aA,aL,cS,aT];refine⟨rfl,?_⟩)
 refine fD ?_;dsimp only[aF,bk,bH,bZ,bE];refine G.hc<|j4 (b:=Jd) (m:=w) e J.nd (by exact zle Z U) (λy d hr=>(j9<|J.val y d).2 hr) ?_;dsimp only[cU,aA,bt,bk];refine cY (λ(k:Nat)=> .int (k:Int)) (λ(k:Nat)=> .int (k:Int)) (λj=>decide<|t j>0) (λj v=> ?_) ?_
 ·have v:=Qh.mp (Qj.mp v).1;dsimp only[bp,cr,b5,aM,Qa,aK,aB,aA,bK];refine⟨λT hT=> ?_,λo0 K k=> ?_⟩
  ·dsimp only[tstD];dsimp only[bo,bM,aN,aP,aD,aJ,Qa,aG,aB,aA,aL];refine aS (d5 v) ?_;dsimp only[j0];exact hT
  ·dsimp only[elD];dsimp only[aD,aJ,Qa,aG,aB,aA,aL,bB];exact k
 dsimp only[bq,aF,aK,Qa,aM,aB,aA];have M:((numF Jd w B.1).filter λj=>decide<|t j>0)=goalF w t (cameF ps h x L):=by rw[show cameF ps h x L=B from hB];rfl
 rw[M]
 induction hg:goalF w t (cameF ps h x L) using List.casesOn with
 |nil=>
  rw[xV A hg,show cameF ps h x L=B from hB] at P;refine dJ ?_
  (dsimp only[aI,bo,bM,dy,deq,bv,fsts,dnew,aE,aX,aD,aG,Qa,aJ,aB,aA,aL];refine⟨by decide,⟨rfl,rfl⟩,?_⟩)
  refine pP ⟨rfl,rfl,.inr ⟨rfl,rfl⟩⟩ ?_
  (dsimp only[fsts,aC,aW,aH,aE,aU,aI,aQ,flags,bX,aD,aG,Qa,aJ,aB,aA,aL,cS,aT];refine⟨rfl,?_⟩)
  refine fV ?_;dsimp only[aF,bk,bH,bZ,bE];refine G.hc<|j4 (b:=Jc) (m:=h) e J.nd (by exact zle Z U) (λy d hr=>(j9<|J.val y d).1 hr) ?_
  (dsimp only[aA,bt,bk];refine⟨rfl,?_⟩)
  refine fD ?_;dsimp only[aF,bk,bH,bZ,bE];refine G.hc<|j4 (b:=Jd) (m:=w) e J.nd (by exact zle Z U) (λy d hr=>(j9<|J.val y d).2 hr) ?_
  (dsimp only[aA,bt,bk];refine⟨rfl,?_⟩)
  exact G.qx<|W _ _ P.symm
 |cons g gs=>
  have T:=pq S F hg;rw[yM A hg] at P;rw[show cameF ps h x L=B from hB] at T P;have ae:=U;obtain⟨jg,ad⟩:=T.gB;refine dJ ?_
  (dsimp only[aH,bo,bM,dy,deq,bv,fsts,dnew,aE,aI,aX,aD,aG,Qa,aJ,aB,aA,aL];refine⟨by decide,?_⟩)
  refine⟨⟨by rw[gv];exact eT _ (λa=>qc _ _) _,rfl⟩,?_⟩;rw[yi];dsimp only[aB];refine d3 rfl ?_
  (dsimp only[aQ,flags,aC,aH,aW,aE,aI,aU,bR,fsts,dtup,aY,aX,aP,aN,aD,aG,Qa,aJ,aB,aA,aL,bt,bX,cS,aT];refine⟨rfl,?_⟩)
  refine fD ?_;dsimp only[bk];refine aS (l2 _ _) ?_
  (dsimp only[bB,bk,aF,bH,bZ,bE];refine⟨by decide,?_⟩)
  refine G.hc<|tZ (y:= .c g) e J U ad ?_;dsimp only[aA,bI,tgl,bw,bC,bz,bA,aB,aF,bq,v9,aK,Qa,aM,bK];refine aZ ?_
  (dsimp only[bj,im,aC,aE,n8,bq,aF,aK,Qa,aM,aA,aB,bl,bv,fsts,dnew,aH,aY,aW,aI,aX,aU,aP,aN,aD,aG,aJ,aL,bt];refine⟨rfl,?_⟩)
  refine aS (pr _) ?_;refine aS (d5 T.ih.2) ?_;dsimp only[bB,bk];refine aS (l2 _ _) ?_;refine aS (d5 T.gw) ?_
  (dsimp only[bB,bk];refine⟨by decide,?_⟩)
  refine bY rfl ?_;dsimp only[fsts,fy,f0,bE,bk,tgl,bw,eY,eW,dnew,aY,de,aC,aH,aW,aE,aI,aU,c7,aD,aG,Qa,aJ,aB,aA,aL,bt,bH,cU];refine bS dP (λp=> .int (x p)) (λp hp K k=> ?_) ?_
  ·dsimp only[bp,cr,b5,aM,Qa,aK,aB,aA,bK];dsimp only[elD];dsimp only[aP,aD,aJ,Qa,aG,aB,aA,aL,cS];refine aS (ct bW (cI p)<|T.inL p hp) ?_;dsimp only[bB];exact k
  refine⟨by rw[Qd];exact dX (by have:(wayF B 17<|.c g).L.length<=ps.length:=T.len;exact zb2 (Kf (zle this l) 2) rfl),?_⟩;refine eD (ints2 _ _ _ _) ?_;refine⟨λq=>(nomatch q),?_⟩;rw[show lmin (L (wayG B g).E.no::t g::(wayF B 17<|.c g).L.map x)=amt x L t (wayG B g) g from rfl];have ab:=T.ar;have H:=T.a1;have E:=T.less;have aa:=T.fill;have R:=T.ih.2;generalize amt x L t (wayG B g) g=a at P ab H E aa ⊢;refine jX ?_;rw[show spl _ _=Ja ([],"counts",[.loc "raised",.loc "lowered",.loc "amount"]) from rfl,sJ]
  (dsimp only[aK,Qa,aM,aB,aA,aC,aH,aE,aI,aD,aG,aJ,aL,bB,bt,aX,bE];refine⟨rfl,rfl,rfl,rfl,?_⟩)
  refine G.io<|oZ e S.nd l T.inR T.inL ?_;refine pO ?_;dsimp only[aP,aN,aD,nu,aG,Qa,aJ,aB,aA,aL,bl,bB,bt];rw[pr];dsimp only[ce];refine aS (d5 R) ?_
  (dsimp only[cT];refine⟨rfl,?_⟩)
  rw[lJ]
  (dsimp only[aG,Qa,aJ,aB,aA,aL];refine⟨rfl,?_⟩)
  rw[x7,o8,Qd,Qd,Qr,fH (show(wayF B 17<|.c g).E.no<h from R),cD,li (show(wayF B 17<|.c g).E.no<h from R),mV];dsimp only[aK,Qa,aM,aB,aA,aG,aJ,aL];refine pO ?_;dsimp only[aP,aN,aD,nu,aG,Qa,aJ,aB,aA,aL,bl,bB,bt];rw[l2];dsimp only[ce];refine aS (d5 T.gw) ?_
  (dsimp only[cT];refine⟨rfl,?_⟩)
  rw[lJ]
  (dsimp only[aG,Qa,aJ,aB,aA,aL];refine⟨rfl,?_⟩)
  rw[x7,o8,Qd,Qd,Qr,fH T.gw,cD,li T.gw,mV];dsimp only[aK,Qa,aM,aB,aA,aG,aJ,aL];refine kn _ _ ?_ ⟨_,_,_,f,cv,cn,_,_,_,_,_,_,_,aa,rfl,?_,P,rfl⟩
  ·exact zq (ztn A H E) hk
  ·exact zll (ztn A H E)<|zle (Kd hk) (zs hf)
end
def setG{L:Type}(t:List (List L))(i j:Nat)(v:L):List (List L):=t.set i<|(rowAt t i).set j v
theorem Rect.setG{L:Type}{t:List (List L)}(R:Rect t h w)(hi:i<h){v:L}:Rect (setG t i j v) h w:=by
 refine⟨by rw[Vl.Internal.setG,YA];exact R.len,λr T=> ?_,R.h1,R.h8,R.w1,R.w8⟩
 rcases List.mem_or_eq_of_mem_set T with q|rfl
 ·exact R.row r q
 ·rw[YA];exact(R.at_ hi).2
theorem yD(R:Rect t h w)(hi:i<h)(E:j<w)(a b:Nat):cO (setG t i j v) a b=if(a,b)=(i,j) then v else cO t a b:=by
 have l:i<t.length:=by rw[R.len];exact hi
 have r:=(R.at_ hi).2;unfold cO rowAt setG;rw[Ws];by_cases T:i=a
 ·subst T;rw[Y8 rfl,Y8 l];show((rowAt t i).set j v)[b]?.getD Jb=_;rw[Ws];by_cases H:j=b
  ·subst H;rw[Y8 rfl,Y8<|by exact zq E r.symm,Y8 rfl];rfl
  ·rw[Y7 H,Y7 λq=>H (Prod.mk.inj q).2.symm];rfl
 ·rw[Y7 T,Y7 λq=>T (Prod.mk.inj q).1.symm]
section
variable{G:Gx}{cl cu:DCl}{Δ:DRho}
theorem yb(R:Rect t h w)(hx:Δ.get x=Ja (dC t,Jc))(hi:i<h)(N:j<w)
  (O:∀Q:D->DRho->Prop,Q (dO v) Δ->dwm G cl e Δ Q)(T:∀ (Q:DQ) X,Q (.int i) Jb->dwe G cl s Δ Q X)(Z:∀ (Q:DQ) X,Q (.int j) Jb->dwe G cl c Δ Q X)
  (k:dwss G cl cu r (Δ.put x (dC<|setG t i j v,Jc)) Q X):dwss G cl cu (.setIdx (.sub (.loc x) s) c e::r) Δ Q X:=by
 refine pO<|O _ ?_;rw[xM,lJ,hx,aL];refine⟨rfl,T _ _ ⟨rfl,?_⟩⟩;rw[ew R hi,ce];refine Z _ _ ?_;rw[x7,o8,Qd,(R.at_ hi).2,fH N,cD];show dOE _ (Δ.get x);rw[hx,aL];show dOD _ (updp [.int i] (λo0=>Ja<|.list (((rowAt t i).map dO).set j (dO v))) (dC t));have u:updp [.int i] (λo0=>Ja<|.list (((rowAt t i).map dO).set j (dO v))) (dC t)=Ja (dC<|setG t i j v):=by
  show(place (t.map dR).length (i:Int)).bind (λH=>((t.map dR)[H]?).bind λx=>Wx (λy=>D.list<|(t.map dR).set H y)<|Ja (.list<|((rowAt t i).map dO).set j (dO v)))=_;rw[Qd,R.len,fH hi];show((t.map dR)[i]?).bind (λx=>Ja<|D.list ((t.map dR).set i (.list<|((rowAt t i).map dO).set j (dO v))))=_;rw[Qu,(R.at_ hi).1];show Ja (D.list<|(t.map dR).set i (.list<|((rowAt t i).map dO).set j (dO v)))=_;rw[<-List.map_set (f:=dO),show D.list (KQ dO<|(rowAt t i).set j v)=dR ((rowAt t i).set j v) from rfl,<-List.map_set];rfl
 rw[u,ce];exact k
end
def fcF(x:Pl->Int)(c:List (List (Option Int)))(ps:List Pl):List (List (Option Int)):=ps.foldl (λt p=>setG t p.1 p.2 (Ja (x p))) c
theorem r6{h w:Nat}{x:Pl->Int}:∀ {ps:List Pl} {c:List (List (Option Int))},Rect c h w->(∀p∈ps,p.1<h/\p.2<w)->Rect (fcF x c ps) h w/\∀a b,cO (fcF x c ps) a b=if(a,b)∈ps then Ja (x (a,b)) else cO c a b
 |[]=>λR o0=>⟨R,λa b=>rfl⟩
 |p::ps=>λR D=>by
  obtain⟨o,r⟩:=D p<|.head _;obtain⟨N,Y⟩:=r6 (x:=x) (ps:=ps) (R.setG (j:=p.2) (v:=Ja<|x p) o) λq m=>D q<|.tail _ m;refine⟨N,λa b=>(Y a b).trans ?_⟩;rw[yD R o r];by_cases q:(a,b)∈ps
  ·rw[Y8 q,Y8 (.tail _ q)]
  ·rw[Y7 q];by_cases z:(a,b)=p
   ·rw[Y8 z,Y8<|z▸ .head _,z]
   ·rw[Y7 z,Y7 λy=>(QB.mp y).elim z q]
def tabV(c:List (List (Option Int)))(x:Pl->Int)(h w:Nat):List (List Int):=(Qc h).map λa=>(Qc w).map λb=>(cO c a b).getD (x (a,b))
theorem uW(R:Rect t h w):t=(Qc h).map λa=>(Qc w).map λb=>cO t a b:=by
 refine(tN R).trans (Qo λa T=> ?_);have l:=(R.at_<|Qh.mp T).2;refine WT (by rw[l,Qd,Qr]) λi N p=> ?_;rw[WU,Wa,cO,Qf N];rfl
theorem yR(R:Rect c h w)(x:Pl->Int):dC (fcF x c (psF c h w))=dT (tabV c x h w):=by
 obtain⟨N,p⟩:=r6 (x:=x) (ps:=psF c h w) R (fw R).mem;have L:fcF x c (psF c h w)=(Qc h).map λa=>(Qc w).map λb=>Ja ((cO c a b).getD (x (a,b))):=by
  refine(uW N).trans (Qo λa T=>Qo λb H=> ?_);rw[p];by_cases q:(a,b)∈psF c h w
  ·rw[Y8 q,(eV q).2.2];rfl
  ·rw[Y7 q]
   induction e:cO c a b with
   |some v=>rfl
   |none=>
    refine absurd (Qj.mpr ⟨allF_mem.mpr ⟨Qh.mp T,Qh.mp H⟩,?_⟩) q;show(!(cO c a b).isSome)=Jc;rw[e];rfl
 rw[L,tabV,dC,dT,Qx,Qx]
 congr 1
 refine Qo λa o0=> ?_;show dR _=dI _;rw[dR,dI,Qx,Qx];rfl
theorem pj(ps:List Pl):(ps.map pkey).map keyDd=ps.map dP:=by rw[Qx];rfl
theorem xU{M:D->DRho->Prop}(a:E)(l:List E):dwm G cl (.sub a (.tup l)) Δ M=dwe G cl (.sub a (.tup l)) Δ (λd t=>t=Jb/\M d Δ) λo0 o0=>False:=rfl
section
variable{C:Cx}{mg mb:Jq->Option Jf}{n:Nat}{Q:D->Bool->Prop}{X:DX}
theorem fY(e:Env1 C G1 mg mb)(R:Rect c h w){x:Pl->Int}(T:Q (dT (tabV c x h w)) Jc):aR (aO C (n+1)) "with_counts" [(.tup [dC c,dI r,dI s],b1),(dCt (psF c h w) x,b2)] Q X:=by
 refine e.fn ej (by simp[tab]) rfl λcl cu P PX g=> ?_;dsimp only[ej];dsimp only[br,ci,bD];have S:=fw R;have l:(psF c h w).length<=64:=gf R.h8 R.w8;rw[<-yR R] at T;refine aZ ?_;refine bY rfl ?_;dsimp only[fsts,aC,aH,aW,aE,aI,aU,c7,aP,aN,aD,aG,Qa,aJ,aB,aA,aL,bI,tgl,bw,bC,bz,bA,cz,ce,bt,bH,cU];refine bS dR dR (λZ f K k=> ?_) ?_
 ·dsimp only[bp,cr,b5,aM,Qa,aK,aB,aA,bK];dsimp only[elD]
  (dsimp only[bj,iS,aC,aE,bV,aD,aJ,Qa,aG,aB,aA,aL,bt,zn,tgl];refine⟨rfl,?_⟩)
  rw[cH _ v6];exact k
 dsimp only[bq,aF,aK,Qa,aM,aB,aA];generalize psF c h w=ps at S l T ⊢;refine dK rfl ?_
 (dsimp only[fsts,aC,aH,aW,aE,aI,aU,c7,bj,iS,bV,aD,aG,Qa,aJ,aB,aA,aL,cS,y5,bk,bq,cU];refine⟨rfl,?_⟩)
 refine⟨⟨by rw[Qd];exact dX<|by exact zb2 l rfl,λq o=> ?_⟩,?_⟩
 ·obtain⟨y,o0,rfl⟩:=Qi.mp o;exact dX (show 2<=1000 by decide)
 rw[pj];refine dl dP (λi Δ=>∃u v,Δ=(Nb "view" b1 (.tup [dC c,dI r,dI s])<|Nb "counts" b2 (dCt ps x)<|Nb "table" Jc (dC<|fcF x c (ps.take i))<|No "row" u<|No "column" v<|[])) _ _ ⟨_,_,rfl⟩ ?_ ?_
 ·rintro j p Δ H ⟨u,v,rfl⟩ K m;have D:=QJ H;obtain⟨b,o0⟩:=r6 (x:=x) (ps:=ps.take j) R λq o=>S.mem q<|List.mem_of_mem_take o;rw[show fcF x c (ps.take<|j+1)=setG (fcF x c<|ps.take j) p.1 p.2 (Ja<|x p) from jm _ c H] at m;generalize fcF x c (ps.take j)=t at b m ⊢;obtain⟨I,U⟩:=S.mem p D;dsimp only[dP];dsimp only[gG,bw,eY,bz,eW,jH,aK,Qa,aM,aB,aA,bK];refine yb (i:=p.1) (j:=p.2) (v:=Ja<|x p) b rfl I U (λQ q=> ?_) (λQ X q=> ?_) (λQ X q=> ?_) ?_
  ·rw[xU]
   (dsimp only[aP,bR,fsts,dtup,aC,aH,aY,aE,aI,aX,aD,aG,Qa,aA,aB,aL,cS];refine⟨by decide,?_⟩)
   refine aS (ct bW (show keyD (.tup [.int (p.1:Int),.int (p.2:Int)])=Ja (pkey p) from rfl) D) ?_
   (dsimp only[bB];refine⟨rfl,?_⟩)
   exact q
  ·dsimp only[aD,aG,Qa,aB,aA,aL,bB];exact q
  ·dsimp only[aD,aG,Qa,aA,aB,aL,bB];exact q
  ·dsimp only[aK,Qa,aB,aA];exact m _ ⟨_,_,rfl⟩
 ·rintro Δ ⟨u,v,rfl⟩;rw[Kl];refine ip ?_;refine cK ?_
  (dsimp only[b8,aK,Qa,aM,aB,aA,aG,aJ,aL,bC];refine⟨rfl,?_⟩)
  exact g.qr T
theorem rD(e:Env1 C G1 mg mb)(V:VOK c r s h w)(t:∀x,outV c r s h w= .tab x->Q (dT (tabV c x h w)) Jc)
  (k:∀pa pb,outV c r s h w= .no pa pb->X "NoTable" [dNs ((Qc h).filter pa),dNs ((Qc w).filter pb)]):aR (aO C<|n+5) "filled" [(.tup [dC c,dI r,dI s],b)] Q X:=by
 refine e.fn iV (by simp[tab]) rfl λcl cu P PX g=> ?_;dsimp only[iV];dsimp only[br,ci,bD];refine f7 ?_
 (dsimp only[aQ,flags,aC,aH,aE,aI,aD,aG,Qa,aA,aL,bI,tgl,bw,bC,bz,bA,aB,aT];refine⟨rfl,?_⟩)
 refine g.hc<|h9 e V ?_;refine b0 ?_
 (dsimp only[aQ,flags,aC,aH,aW,aE,aI,aU,aD,aG,Qa,aA,aL,bI,tgl,bw,bC,bz,bA,aB,aT,bH,bZ,bE];refine⟨rfl,rfl,?_⟩)
 refine g.hc (iq e V (λx hx=> ?_) λpa pb hx=>g.qx<|k pa pb hx);dsimp only[aA,cS,aF,bk,bH,bZ,bE];exact g.hc<|fY e V.R (g.qr<|t x hx)
theorem t0{G:Gx}{cl cu:DCl}{Δ:DRho}{Q:bT}{X:DSX}{b h r:List S}{c:String}(U:G.full=Jc/\G.calm=Jc/\G.cs.contains c=Jc)
  (w:dwss G cl cu b Δ (donFl (λi=>dwss G cl cu r i Q X) Q) λe es i=>if G.sub e c then dwss G.un cu cu h i (donFl (λi=>dwss G cl cu r i Q X) Q) λo0 o0 o0=>False else False):
  dwss G cl cu (.try1 b c h::r) Δ Q X:=⟨U,w⟩
end
theorem y8{f:List D->List D}{ok:Nat->Prop}(l:List D):jp f ok t Q (.list l)=Q (.list (f l)) (tgl (f l) t):=rfl
theorem dH{L:Type}(l:List L)(j:Nat):(l.drop j++l.take j).Perm l:=by
 have:=List.perm_append_comm (l₁:=l.drop j) (l₂:=l.take j)
 rwa [List.take_append_drop] at this
theorem sO{l m:List Int}(h:l.Perm m):l.sum=m.sum:=by
 induction h with
 |nil=>rfl
 |cons a h ih=>rw[QH,QH,ih]
 |swap a b l=>rw[QH,QH,QH,QH];exact Int.add_left_comm _ _ _
 |trans h1 h2 i1 i2=>exact i1.trans i2
noncomputable def newS(r:List Int)(f:Nat->Int)(l:List Int)(h:Nat):List Int:=(Qc h).map λk=>r[k]?.getD 0-f k+l[k]?.getD 0
theorem get_mem{l:List Int}(h:k<l.length):l[k]?.getD 0∈l:=by rw[Qf h];exact KN _
theorem fW(l:List Int):(Qc l.length).map (λk=>l[k]?.getD 0)=l:=by
 refine WT (by rw[Qd,Qr]) λi N h=> ?_;rw[WU,Wa,Qf h];rfl
theorem n3(q:k<h):r1F c (newS r (r1F c r) l h) k=l[k]?.getD 0:=by
 unfold r1F newS;rw[cV _ q];dsimp only;exact zr3 _ _ _
theorem ui(q:k<h):r2F c (newS r (r2F c r) l h) k=l[k]?.getD 0:=by
 unfold r2F newS;rw[cV _ q];dsimp only;exact zr3 _ _ _
theorem vU(V:VOK c r s h w){l m:List Int}(T:l.length=h)(L:m.length=w)(F:∀i∈l,0<=i)(nm:∀i∈m,0<=i)(e:l.sum=m.sum):
  VOK c (newS r (r1F c r) l h) (newS s (r2F c s) m w) h w:=by
 refine⟨V.R,by rw[newS,Qd,Qr],by rw[newS,Qd,Qr],V.nc,λi t=> ?_,λi t=> ?_,λk q=> ?_,λk q=> ?_,?_⟩
 ·obtain⟨k,q,rfl⟩:=Qi.mp t;have q:=Qh.mp q;have N:=F _<|get_mem (k:=k) (by exact zq q T.symm);have p:0<=((rowAt c k).filterMap id).sum:=by
   rw[jh];refine fZ λo d=> ?_
   induction o with
   |none=>exact QV 0
   |some v=>exact V.nc _ (QJ (V.R.at_ q).1) v d
  unfold r1F;exact zr7 N p
 ·obtain⟨k,q,rfl⟩:=Qi.mp t;have q:=Qh.mp q;have N:=nm _<|get_mem (k:=k) (by exact zq q L.symm);have p:0<=(c.filterMap λZ=>Z[k]?.getD Jb).sum:=by
   rw[jh];refine fZ λZ f=> ?_;rw[Qf (by rw[V.R.row Z f];exact q)];cases d:Z[k]'(by rw[V.R.row Z f];exact q) with
   |none=>exact QV 0
   |some v=>exact V.nc Z f v<|d▸KN _
  unfold r2F;exact zr7 N p
 ·rw[n3 q];exact F _<|get_mem (by exact zq q T.symm)
 ·rw[ui q];exact nm _<|get_mem (by exact zq q L.symm)
 ·rw[Qo λk q=>n3<|Qh.mp q,Qo λk q=>ui (Qh.mp q)];have a:=fW l;have b:=fW m;rw[T] at a;rw[L] at b;rw[a,b];exact e
section
variable{C:Cx}{mg mb:Jq->Option Jf}{n:Nat}{Q:D->Bool->Prop}{X:DX}
theorem nf(e:Env1 C G1 mg mb){ns:List Int}(s:ns.length<=63)(B:1<=m)(x:m<=8)(W:0<=t)(H:∀l:List Int,l.length=m->(∀i∈l,0<=i)->l.sum=t->Q (dI l) Jc):
  aR (aO C<|n+2) "_law_shared" [(.scr ns,b1),(.int k,b2),(.int m,b3),(.int t,Y)] Q X:=by
 refine e.fn d6 (by simp[tab]) rfl λM S P PX g=> ?_;dsimp only[d6];dsimp only[br,ci,bD];refine aZ ?_
 (dsimp only[bv,fsts,dnew,aE,aI,aX,aU,bq,aF,aK,Qa,aM,aB,aA];refine⟨by decide,?_⟩)
 refine aZ ?_;dsimp only[aD,aG,Qa,aJ,aB,aA,aL,bB,bq,aF,aK,aM];refine dK rfl ?_;dsimp only[fsts,aC,aH,aW,aE,aI,aU,aD,aG,Qa,aJ,aB,aA,aL,bB,bk,bq,eA,eP];refine⟨rg x,?_⟩;refine dp (λj L=>X4 λ(l:List Int) (left:Int) (u v:Option (D×Bool))=>A6 (l.length=j) ((∀i∈l,0<=i)) (0<=left) (l.sum+left=t) ((j=m->left=0))<|L=(Nb "_law_script" b1 (.scr ns)<|Nb "_law_k" b2 (.int k)<|Nb "_law_many" b3 (.int m)<|Nb "_law_total" Y (.int t)<|Nb "_law_parts" Jc (dI l)<|Nb "_law_left" Jc (.int left)<|No "_law_number" u<|No "_law_part" v<|No "_law_at" Jb<|[]))
  ⟨[],t,_,_,rfl,λi h=>(bN h),W,by simp,λq=>absurd q<|by exact WE B,rfl⟩ ?_ ?_
 ·rintro j L y ⟨l,left,u,v,T,c,U,E,o0,rfl⟩ K d;dsimp only[b5,aK,Qa,aM,aB,aA,bK];have f:∀part:Int,0<=part->part<=left->(j+1=m->part=left)->dwss G1 M S [.expr (.meth (.loc "_law_parts") .append [.loc "_law_part"]),.assign (.name "_law_left") (.bin .sub (.loc "_law_left")<|.loc "_law_part")] (Nb "_law_script" b1 (.scr ns)<|Nb "_law_k" b2 (.int k)<|Nb "_law_many" b3 (.int m)<|Nb "_law_total" Y (.int t)<|Nb "_law_parts" Jc (dI l)<|Nb "_law_left" Jc (.int left)<|Nb "_law_number" Jc (.int j)<|Nb "_law_part" Jc (.int part)<|No "_law_at" Jb<|[]) K λo0 o0 o0=>False:=λpart R p r=>by
   refine hM ?_
   (dsimp only[aG,Qa,aJ,aB,aA,aL,de,b8,aK,aM,eY];refine⟨trivial,rfl,?_⟩)
   refine⟨by rw[Qd];exact cZ<|by exact zl (Kd T)<|zll y (zb2 x rfl),?_⟩;refine aZ ?_;dsimp only[bl,aD,aG,Qa,aJ,aB,aA,aL,bB,cT,bq,aF,aK,aM];refine d _ ⟨l++[part],left-part,Ja (.int j,Jc),Ja (.int part,Jc),?_,λi h=> ?_,by exact Wv p,?_,λq=> ?_,?_⟩
   ·rw[QD,T];rfl
   ·rcases Qt.mp h with h|h
    ·exact c i h
    ·rw[Qk.mp h];exact R
   ·rw[Wf,QH,List.sum_nil];exact zr13 E
   ·rw[r q];exact YB _
   ·rw[pS];rfl
  refine aZ ?_;dsimp only[aD,aG,Qa,aJ,aB,aA,aL,bB,bq,aF,aK,aM];refine dJ ?_;dsimp only[bo,bM,bl,aN,aD,aG,Qa,aJ,aB,aA,aL,bB,cT,nk];refine cB (λN=> ?_) λN=> ?_
  ·refine aZ ?_
   (dsimp only[bl,aN,aD,aG,Qa,aJ,aB,aA,aL,bB,cm,aQ,flags,aC,aH,aW,aE,aI,aU,aF,bk,ie,bH];refine⟨rfl,?_⟩)
   refine g.hc<|eB e s ?_;dsimp only[dq,bq,aF,aK,Qa,aM,aB,aA];refine⟨by exact Int.ne_of_gt<|WQ U,?_⟩;have w:=iE (a:=mixF ns<|k+j) (b:=left+1) (by exact WQ U);refine dJ ?_
   (dsimp only[bo,bM,dy,deq,aN,bl,aQ,flags,aC,aH,aW,aE,aI,aU,aD,aG,Qa,aJ,aB,aA,aL,bB,cm,aF,bk,ie,bH];refine⟨rfl,?_⟩)
   refine g.hc<|eB e s ?_
   (dsimp only[jL,dq,cj];refine⟨by decide,by decide,by decide,⟨rfl,rfl⟩,?_⟩)
   refine cB (λA=> ?_) λA=> ?_
   ·refine aZ ?_
    (dsimp only[aP,bl,aN,aQ,flags,aC,aH,aW,aE,aI,aU,aD,aG,Qa,aJ,aB,aA,aL,bB,cm,aF,bk,ie,bH,bv,fsts,dnew,aY,aX];refine⟨by decide,rfl,?_⟩)
    refine g.hc<|eB e s ?_
    (dsimp only[jL,dq];refine⟨by decide,by decide,by decide,?_⟩)
    have o:=iE (a:=(mixF ns<|k+j).fdiv 24576) (b:=2) (by decide);refine aS (show dsub (.list [.int 0,.int left]) (.int<|((mixF ns<|k+j).fdiv 24576).fmod 2)=_ from kA (l:=[0,left]) o.1 o.2) ?_;dsimp only[bB,bq,aF,aK,Qa,aM,aB,aA];have hv:∀q:Nat,q<2->0<=([0,left][q]?.getD 0:Int)/\([0,left][q]?.getD 0:Int)<=left:=λq o=>by
     rcases q with o0|o0|q
     ·exact⟨QV _,U⟩
     ·exact⟨U,QV _⟩
     ·exact absurd o<|QT.mpr (Wq 2 q)
    have:=hv (((mixF ns<|k+j).fdiv 24576).fmod 2).toNat (by exact(WF o.1).mpr o.2);exact f _ this.1 this.2<|λq=>absurd N<|zls q
   ·exact f _ w.1 (by exact Int.le_of_lt_add_one w.2)<|λq=>absurd N<|zls q
  ·exact f left U (QV _) λo0=>rfl
 ·rintro L ⟨l,left,u,v,T,c,U,E,z,rfl⟩;have z:=z rfl;refine ip ?_;refine aZ ?_
  (dsimp only[bl,aD,aG,Qa,aJ,aB,aA,aL,bB,aQ,flags,aC,aH,aW,aE,aI,aU,cm,aF,bk,ie,bH];refine⟨rfl,?_⟩)
  refine g.hc<|eB e s ?_;dsimp only[dq,bq,aF,aK,Qa,aM,aA,aB];refine⟨by exact Int.ne_of_gt<|Kj.mpr B,?_⟩;generalize (mixF ns<|k+m).fmod m=at_;refine b0 ?_;dsimp only[bl,tE,aD,aG,Qa,aJ,aA,aB,aL,o8,bt,tt];rw[y8,y8];generalize cut (l.map D.int).length at_=q;rw[<-List.map_drop,<-List.map_take,fy,<-QC];refine⟨?_,?_⟩
  ·rw[Qd,(dH l q).length_eq];exact dX<|by exact zle (Kd T)<|zb2 x rfl
  ·rw[show tgl ((l.drop q++l.take q).map D.int) _=Jb by unfold tgl;rw[cH _ iR];rfl];dsimp only[aF];refine g.qr<|H _ ((dH l q).length_eq.trans T) (λi h=>c i<|(dH l q).mem_iff.mp h) ?_;rw[sO (dH l q)];exact zr15 E z
end
theorem p9(F:Pl->Int)(h w:Nat):((allF h w).map F).sum=((Qc h).map λa=>((Qc w).map λb=>F (a,b)).sum).sum:=by
 induction h with
 |zero=>rfl
 |succ h i=>
  rw[lL,QC,Wf,i,List.range_succ,QC,Wf,Qx];show _+_=_+(((Qc w).map λb=>F (h,b)).sum+0)
  rw[QW];rfl
theorem gj(f g:Pl->Bool)(x:Pl->Int):∀l:List Pl,sumOn f (l.filter g) x=(l.map λp=>if g p then(if f p then x p else 0) else 0).sum
 |[]=>rfl
 |p::l=>by
  rw[Qw,QH,<-gj f g x l];by_cases h:g p=Jc
  ·rw[QX h,cw,Y8 h]
  ·rw[QY h,Y7 h,Wj]
theorem mq{v:Nat->Int}{l:List Nat}(nd:l.Nodup)(o:q∈l):(l.map λi=>if i=q then v i else 0).sum=v q:=by
 rw[show(l.map λi=>if i=q then v i else 0)=l.map λi=>if q=i then v q else 0 from Qo λi o0=> ?_,l3 nd,Y8 o];by_cases e:i=q
 ·subst e;rw[Y8 rfl]
 ·rw[Y7 e,Y7 λz=>e z.symm]
def hx(c:List (List (Option Int)))(x:Pl->Int)(a b:Nat):Int:=if !(cO c a b).isSome then x (a,b) else 0
section
variable{c:List (List (Option Int))}{r s:List Int}{h w:Nat}{x:Pl->Int}
theorem jV(T:a<h):rowS (psF c h w) x a=((Qc w).map λb=>hx c x a b).sum:=by
 rw[rowS,psF,gj,p9];rw[show((Qc h).map λY=>((Qc w).map λb=>if !(cO c Y b).isSome then(if decide (Y=a) then x (Y,b) else 0) else 0).sum)=(Qc h).map λY=>if Y=a then((Qc w).map λb=>hx c x Y b).sum else 0 from Qo λY o0=> ?_]
 ·exact mq (v:=λY=>((Qc w).map λb=>hx c x Y b).sum) Km<|Qh.mpr T
 ·by_cases e:Y=a
  ·rw[Y8 e];refine Ub Ww (Qo λb o0=> ?_);rw[Y8 (Y4 e)];rfl
  ·rw[Y7 e];refine(Ub Ww<|Qo λb o0=> ?_).trans (gO<|Qc w);rw[show decide (Y=a)=Jd from Y5 e];split<;>rfl
theorem jW(R:b<w):colS (psF c h w) x b=((Qc h).map λa=>hx c x a b).sum:=by
 rw[colS,psF,gj,p9,mG (λa G=>if !(cO c a G).isSome then(if decide (G=b) then x (a,G) else 0) else 0)];rw[show((Qc w).map λG=>((Qc h).map λa=>if !(cO c a G).isSome then(if decide (G=b) then x (a,G) else 0) else 0).sum)=(Qc w).map λG=>if G=b then((Qc h).map λa=>hx c x a G).sum else 0 from Qo λG o0=> ?_]
 ·exact mq (v:=λG=>((Qc h).map λa=>hx c x a G).sum) Km<|Qh.mpr R
 ·by_cases e:G=b
  ·rw[Y8 e];refine Ub Ww (Qo λa o0=> ?_);rw[Y8 (Y4 e)];rfl
  ·rw[Y7 e];refine(Ub Ww<|Qo λa o0=> ?_).trans (gO<|Qc h);rw[show decide (G=b)=Jd from Y5 e];split<;>rfl
theorem gW(R:Rect c h w):Rect (tabV c x h w) h w:=Rect.range _ R.h1 R.h8 R.w1 R.w8
theorem rj(T:a<h)(R:b<w):cell (tabV c x h w) a b=(cO c a b).getD (x (a,b)):=by
 rw[cell,tabV,eZ _ T,cV _ R]
end
noncomputable def stG(hi:Bool)(p:Pl):Nd:=bif hi then .c p.2 else .r p.1
noncomputable def glG(hi:Bool)(p:Pl):Nd:=bif hi then .r p.1 else .c p.2
abbrev cmG(ps:List Pl)(hi:Bool)(p:Pl)(x:Pl->Int):Bs:=bfsF (bn (Ja p) ps) x [stG hi p]
noncomputable def upR(hi:Bool)(p:Pl)(W:Way):List Pl:=bif hi then W.R++[p] else W.R
noncomputable def dnL(hi:Bool)(p:Pl)(W:Way):List Pl:=bif hi then W.L else W.L++[p]
def amG(hi:Bool)(p:Pl)(x:Pl->Int)(W:Way):Int:=lmin<|(dnL hi p W).map x
def nxG(hi:Bool)(p:Pl)(x:Pl->Int)(W:Way):Pl->Int:=incs (-amG hi p x W) (dnL hi p W)<|incs (amG hi p x W) (upR hi p W) x
noncomputable def cycF(ps:List Pl)(hi:Bool)(p:Pl):Nat->(Pl->Int)->(Pl->Int)
 |0,x=>x
 |k+1,x=>if glG hi p∈(cmG ps hi p x).1/\(hi=Jd->x p≠0) then cycF ps hi p k (nxG hi p x<|wayF (cmG ps hi p x) 17 (glG hi p)) else x
noncomputable def msG(R:Nat->Int)(hi:Bool)(p:Pl)(x:Pl->Int):Nat:=bif hi then(R p.1-x p).toNat else(x p).toNat
theorem jM{ps:List Pl}{x:Pl->Int}(h:¬ (glG hi p∈(cmG ps hi p x).1/\(hi=Jd->x p≠0))):cycF ps hi p k x=x:=by
 induction k using Nat.casesOn with
 |zero=>rfl
 |succ k=>exact Y7 h
theorem lI{ps:List Pl}{x:Pl->Int}(h:glG hi p∈(cmG ps hi p x).1/\(hi=Jd->x p≠0)):cycF ps hi p (k+1) x=cycF ps hi p k (nxG hi p x (wayF (cmG ps hi p x) 17 (glG hi p))):=Y8 h
theorem j3(s:Bs):∀ (k:Nat) (y:Nd),(wayF s k y).R.length<=k/\(wayF s k y).L.length<=k
 |0=>λy=>⟨Qz _,Qz _⟩
 |k+1=>λy=>by
  induction h:s.2 y with
  |none=>rw[kh h];exact⟨QN _,QN _⟩
  |some e=>
   obtain⟨N,Y⟩:=j3 s k e.1;rw[j6 (z:=e.1) (p:=e.2) h]
   induction y.isR with
   |true=>exact⟨Wt N,KM Y⟩
   |false=>exact⟨KM N,Wt Y⟩
theorem qt(l:List Pl)(p:Pl)(i:Nat):cR (l++[p]) i=cR l i+ind (p.1=i):=by
 have:=lD p l i;unfold cR at this ⊢;rw[Yh,Nat.add_comm,<-Yh];exact this
theorem qg(l:List Pl)(p:Pl)(i:Nat):cC (l++[p]) i=cC l i+ind (p.2=i):=by
 have:=lP p l i;unfold cC at this ⊢;rw[Yh,Nat.add_comm,<-Yh];exact this
theorem mJ(δ:Int)(R:List Pl)(p:Pl)(x:Pl->Int):incs δ (R++[p]) x p=incs δ R x p+δ:=by
 unfold incs;rw[List.foldl_append];exact bO _ _ _
theorem wA(a i:Nat):ind (Nd.r a= .r i)=ind (a=i):=by
 by_cases h:a=i
 ·rw[eR h,eR (h▸rfl)]
 ·rw[dc h,dc λq=>h (Nd.r.inj q)]
theorem wL(a i:Nat):ind (Nd.c a= .c i)=ind (a=i):=by
 by_cases h:a=i
 ·rw[eR h,eR (h▸rfl)]
 ·rw[dc h,dc λq=>h (Nd.c.inj q)]
theorem oG(a i:Nat):ind (Nd.r a= .c i)=0:=dc λq=>nomatch q
theorem tQ(a i:Nat):ind (Nd.c a= .r i)=0:=dc λq=>nomatch q
section
variable{ps:List Pl}{h w:Nat}{R C:Nat->Int}{x:Pl->Int}{hi:Bool}{p:Pl}
theorem mF(S:Sz ps h w)(D:p∈ps):Bfs (bn (Ja p) ps) x [stG hi p] h w (cmG ps hi p x)/\∀z∈(cmG ps hi p x).1,∀e∈nbrs (bn (Ja p) ps) z,okE x z e.2=Jc->e.1∈(cmG ps hi p x).1:=by
 obtain⟨N,Y⟩:=S.mem p D;refine oH (λq o=>S.mem q (bn_mem.mp o).1) (Kg S.h8 S.w8) 17 0 _ (.start (QA.mpr ⟨λq=>(bN q),.nil⟩) λy W=> ?_) (λi z hi=>absurd hi<|Kw _) (QN _) (by decide);rw[Qk.mp W]
 induction hi with
 |true=>exact Qe _<|Qi.mpr ⟨_,Qh.mpr Y,rfl⟩
 |false=>exact Ql _<|Qi.mpr ⟨_,Qh.mpr N,rfl⟩
theorem uV(S:Sz ps h w)(F:Good ps h w R C (.tab x)){U L:List Pl}(Y:∀q∈U,q∈ps)(K:∀q∈L,q∈ps)(nd:L.Nodup)(P:0<=a)(l:∀q∈L,a<=x q)(r:∀i,cR U i=cR L i)(c:∀i,cC U i=cC L i):
  Good ps h w R C (.tab<|incs (-a) L (incs a U x)):=by
 have s:∀f:Pl->Bool,((U.countP f:Nat):Int)=(L.countP f:Nat)->sumOn f ps (incs (-a) L<|incs a U x)=sumOn f ps x:=λf e=>by
  rw[eQ S.nd K,eQ S.nd Y,Int.neg_mul,e];exact Int.add_neg_cancel_right _ _
 refine⟨λq o=> ?_,λi hi=>(s _<|r i).trans (F.2.1 i hi),λi hi=>(s _<|c i).trans (F.2.2 i hi)⟩;have N:=lT P (R:=U) (x:=x) q;by_cases m:q∈L
 ·rw[mQ nd m];exact Wv<|QE (l q m) N
 ·rw[er m];exact QE (F.1 q o) N
structure TurnG(ps:List Pl)(h w:Nat)(R C:Nat->Int)(hi:Bool)(p:Pl)(x:Pl->Int):Prop where
 gB:∃j:Nat,(cmG ps hi p x).1[j]? =Ja (glG hi p)
 inR:∀q∈upR hi p (wayF (cmG ps hi p x) 17<|glG hi p),q∈ps
 inL:∀q∈dnL hi p (wayF (cmG ps hi p x) 17<|glG hi p),q∈ps
 ne:dnL hi p (wayF (cmG ps hi p x) 17<|glG hi p)≠ []
 fe:Good ps h w R C (.tab<|nxG hi p x (wayF (cmG ps hi p x) 17<|glG hi p))
 ms:msG R hi p (nxG hi p x<|wayF (cmG ps hi p x) 17 (glG hi p))<msG R hi p x
theorem xd(F:Good ps h w R C (.tab x))(D:p∈ps)(N:p.1<h):x p<=R p.1:=by
 rw[<-F.2.1 p.1 N];unfold rowS sumOn;have n:∀q∈ps.filter λq=>decide<|q.1=p.1,0<=x q:=λq o=>F.1 q (Qj.mp o).1;have m:p∈ps.filter λq=>decide (q.1=p.1):=Qj.mpr ⟨D,Y4 rfl⟩;generalize ps.filter (λq=>decide<|q.1=p.1)=l at n m
 induction l with
 |nil=>cases m
 |cons a l i=>
  rw[Qw,QH];have Y:=n a<|.head _;have z:=fZ (f:=x) λq o=>n q<|.tail _ o;cases m with
  |head=>exact KD z
  |tail _ m=>exact QE (i (λq o=>n q<|.tail _ o) m)<|Yc Y
theorem iF(S:Sz ps h w)(F:Good ps h w R C (.tab x))(D:p∈ps)(P:glG hi p∈(cmG ps hi p x).1)(hx:hi=Jd->x p≠0):TurnG ps h w R C hi p x:=by
 obtain⟨b,o0⟩:=mF (x:=x) (hi:=hi) S D;obtain⟨j,H⟩:=Yx P;have M:=b.len;have Z:=(QK.mp H).1;have W:=oy b 17 j _ H (by exact zll Z<|zle M (zb2 (Kg S.h8 S.w8) rfl));generalize y:wayF (cmG ps hi p x) 17 (glG hi p)=V at W;have E:=Qk.mp W.e;have Q:p∉V.R:=λq=>(bn_mem.mp<|W.r p q).2 rfl;have L:p∉V.L:=λq=>(bn_mem.mp (W.l p q).1).2 rfl;have X:∀q∈V.R,q∈ps:=λq o=>(bn_mem.mp<|W.r q o).1;have s:∀q∈V.L,q∈ps:=λq o=>(bn_mem.mp (W.l q o).1).1;have sn:∀l:List Pl,(∀q∈l,q∈ps)->∀q∈l++[p],q∈ps:=λl M q o=>(Qt.mp o).elim (M q) λz=>by rw[Qk.mp z];exact D
 have r:=W.row;have c:=W.col;rw[E] at r c;have f:dnL hi p V≠ []->(dnL hi p V).Nodup->(∀q∈dnL hi p V,q∈ps/\0<x q)->(∀q∈upR hi p V,q∈ps)->(∀i,cR (upR hi p V) i=cR (dnL hi p V) i)->(∀i,cC (upR hi p V) i=cC (dnL hi p V) i)->(1<=amG hi p x V->Good ps h w R C (.tab<|nxG hi p x V)->msG R hi p (nxG hi p x V)<msG R hi p x)->TurnG ps h w R C hi p x:=λv I n g d U t=>by
  have A:=eO (is:=(dnL hi p V).map x) λq=>v<|KU.mp q;have B:1<=amG hi p x V:=by
   obtain⟨q,o,e⟩:=Qi.mp A.1;unfold amG;rw[<-e];exact(n q o).2
  have G:Good ps h w R C (.tab<|nxG hi p x V):=uV S F g (λq o=>(n q o).1) I (QE (by decide) B) (λq o=>A.2 _<|Qi.mpr ⟨q,o,rfl⟩) d U;refine⟨⟨j,H⟩,?_,?_,?_,?_,?_⟩<;>rw[y]
  ·exact g
  ·exact λq o=>(n q o).1
  ·exact v
  ·exact G
  ·exact t B G
 clear y
 induction hi with
 |true=>
  refine f (λq=> ?_) W.nd (λq o=>⟨s q o,(W.l q o).2⟩) (sn _ X) (λi=> ?_) (λi=> ?_) λB G=> ?_
  ·have N:=c p.2;rw[show V.L=[] from q] at N;rw[show ind (glG Jc p=Nd.c p.2)=0 from oG _ _,show ind (stG Jc p=Nd.c p.2)=1 from eR rfl] at N;have Y:(0:Int)<=cC V.R p.2:=QP _;have J:cC V.R p.2-0=0-1:=N;rw[Yi] at J;rw[J] at Y;exact absurd Y<|by decide
  ·have N:=r i;rw[show ind (stG Jc p=Nd.r i)=0 from tQ _ _,show ind (glG Jc p=Nd.r i)=ind (p.1=i) from wA _ _] at N;show cR (V.R++[p]) i=cR V.L i;rw[qt];exact zg1 N
  ·have N:=c i;rw[show ind (glG Jc p=Nd.c i)=0 from oG _ _,show ind (stG Jc p=Nd.c i)=ind (p.2=i) from wL _ _] at N;show cC (V.R++[p]) i=cC V.L i;rw[qg];exact zg1 N
  ·have T:nxG Jc p x V p=x p+amG Jc p x V:=by
    show incs (-amG Jc p x V) V.L (incs (amG Jc p x V) (V.R++[p]) x) p=_;rw[er L,mJ,er Q]
   have Y:=xd G D (S.mem p D).1;show(R p.1-nxG Jc p x V p).toNat<(R p.1-x p).toNat;exact zg3 T B Y
 |false=>
  have hx:=hx rfl;have m:=F.1 p D;refine f (λq=>by cases List.append_eq_nil_iff.mp q with|intro _ q=>exact nomatch q) (Qv.mpr ⟨W.nd,QA.mpr ⟨λq=>(nomatch q),.nil⟩,λa O b k q=>L<|by rw[Qk.mp k] at q;exact q▸O⟩) (λq o=> ?_) X (λi=> ?_) (λi=> ?_) λB G=> ?_
  ·rcases Qt.mp o with z|z
   ·exact⟨s q z,(W.l q z).2⟩
   ·rw[Qk.mp z];exact⟨D,Int.lt_iff_le_and_ne.mpr ⟨m,Ne.symm hx⟩⟩
  ·have N:=r i;rw[show ind (glG Jd p=Nd.r i)=0 from tQ _ _,show ind (stG Jd p=Nd.r i)=ind (p.1=i) from wA _ _] at N;show cR V.R i=cR (V.L++[p]) i;rw[qt];exact zg2 N
  ·have N:=c i;rw[show ind (stG Jd p=Nd.c i)=0 from oG _ _,show ind (glG Jd p=Nd.c i)=ind (p.2=i) from wL _ _] at N;show cC V.R i=cC (V.L++[p]) i;rw[qg];exact zg2 N
  ·have T:nxG Jd p x V p=x p+ -amG Jd p x V:=by
    show incs (-amG Jd p x V) (V.L++[p]) (incs (amG Jd p x V) V.R x) p=_;rw[mJ,er L,er Q]
   have Y:=G.1 p D;show(nxG Jd p x V p).toNat<(x p).toNat;exact ztn (Int.lt_iff_le_and_ne.mpr ⟨m,Ne.symm hx⟩) B T
theorem l7(S:Sz ps h w)(D:p∈ps):∀ (k:Nat) (x:Pl->Int),Good ps h w R C (.tab x)->msG R hi p x<k->Good ps h w R C (.tab (cycF ps hi p k x))/\¬ (glG hi p∈(cmG ps hi p (cycF ps hi p k x)).1/\(hi=Jd->cycF ps hi p k x p≠0))
 |0=>λx o0 M=>absurd M<|Kw _
 |k+1=>λx F M=>by
  by_cases q:glG hi p∈(cmG ps hi p x).1/\(hi=Jd->x p≠0)
  ·have T:=iF S F D q.1 q.2;rw[lI q];exact l7 S D k _ T.fe<|zll T.ms (zs M)
  ·rw[jM q];exact⟨F,q⟩
theorem rR(S:Sz ps h w)(F:Good ps h w R C (.tab x))(D:p∈ps){pa pb:Nat->Bool}(Z:∀q∈ps,q≠p->pa q.1=pb q.2\/x q=0)(N:pa p.1=Jc)(Y:pb p.2=Jd):
  x p=(((Qc h).filter pa).map R).sum-(((Qc w).filter pb).map C).sum:=by
 have T:(((Qc h).filter pa).map R).sum=sumOn (λq=>decide<|q.1∈(Qc h).filter pa) ps x:=by
  rw[<-cQ (f:=(·.1)) (Km.filter _)];exact Ub Ww<|Qo λi hi=>(F.2.1 i<|Qh.mp (Qj.mp hi).1).symm
 have j:(((Qc w).filter pb).map C).sum=sumOn (λq=>decide<|q.2∈(Qc w).filter pb) ps x:=by
  rw[<-cQ (f:=(·.2)) (Km.filter _)];exact Ub Ww<|Qo λi hi=>(F.2.2 i<|Qh.mp (Qj.mp hi).1).symm
 have c:∀q∈ps,decide (q.1∈(Qc h).filter pa)=pa q.1:=λq o=>by
  rw[We,Ua,Qj,Qh];exact⟨λz=>z.2,λz=>⟨(S.mem q o).1,z⟩⟩
 have m:∀q∈ps,decide (q.2∈(Qc w).filter pb)=pb q.2:=λq o=>by
  rw[We,Ua,Qj,Qh];exact⟨λz=>z.2,λz=>⟨(S.mem q o).2,z⟩⟩
 have k:sumOn (λq=>decide<|q.1∈(Qc h).filter pa) ps (upd x p<|x p+ -x p)=sumOn (λq=>decide<|q.2∈(Qc w).filter pb) ps (upd x p<|x p+ -x p):=by
  refine gE λq o=> ?_;by_cases e:q=p
  ·subst e;exact .inr<|(bO _ _ _).trans (Int.add_right_neg _)
  ·rw[c q o,m q o,b9 _ _ e];exact Z q o e
 rw[fP S.nd D,fP S.nd D,c p D,m p D,N,Y,Y8 rfl,Y7 QF] at k;rw[T,j];exact zg4 k
theorem yt(S:Sz ps h w)(F:Good ps h w R C (.tab x))(D:p∈ps):stG hi p∈(cmG ps hi p x).1/\∀q∈ps,q≠p->(Nd.r q.1∈(cmG ps hi p x).1->Nd.c q.2∈(cmG ps hi p x).1)/\(decide (Nd.r q.1∈(cmG ps hi p x).1)=decide (Nd.c q.2∈(cmG ps hi p x).1)\/x q=0):=by
 obtain⟨b,l⟩:=mF (x:=x) (hi:=hi) S D;refine⟨b.has _<|.head _,λq o n=> ?_⟩;have Q:q∈bn (Ja p) ps:=bn_mem.mpr ⟨o,λz=>n (sj z).symm⟩;have c:Nd.r q.1∈(cmG ps hi p x).1->Nd.c q.2∈(cmG ps hi p x).1:=λr=>l _ r (.c q.2,q) (Qi.mpr ⟨q,Qj.mpr ⟨Q,Y4 rfl⟩,rfl⟩) rfl;refine⟨c,?_⟩
 rcases Int.lt_or_eq_of_le (F.1 q o) with z|z
 ·exact .inl<|decide_eq_decide.mpr ⟨c,λr=>l _ r (.r q.1,q) (Qi.mpr ⟨q,Qj.mpr ⟨Q,Y4 rfl⟩,rfl⟩)<|decide_eq_true z⟩
 ·exact .inr z.symm
end
abbrev dIn(ps:List Pl)(x:Pl->Int)(xs:List Nd):D:= .inst [dCt ps x,md Nd.key (nearG ps) xs]
theorem pc(a b:D):dfld G1 "counts" (.inst [a,b])=Ja a:=rfl
theorem pI(a b:D):dfld G1 "near" (.inst [a,b])=Ja b:=rfl
theorem gK(p:Pl):dsub (dP p) (.int 0)=Ja (.int p.1):=rfl
theorem gC(p:Pl):dsub (dP p) (.int 1)=Ja (.int p.2):=rfl
theorem ub{p:Pl}(N:p.1<8)(h:p.2<8):df (pkey p)=Jc:=by
 show(decide _&&decide _)=Jc;rw[Y4 ⟨QP _,Kj.mpr N⟩,Y4 ⟨QP _,Kj.mpr h⟩];rfl
def endF(ps:List Pl)(R:Nat->Int)(hi:Bool)(p:Pl)(x:Pl->Int):Pl->Int:=cycF ps hi p (msG R hi p x+1) x
inductive EnK:Option Int->D->Prop
 |none:EnK Option.none .none
 |some (v:Int):EnK (Ja v) (.int v)
theorem zC{d:D}(E:EnK e d){A B:Prop}(N:∀v,e=Ja v->d= .int v->A->B)(h:A):hZ d=Jd/\cond (!d.isNone) B A:=by
 induction E with
 |none=>exact⟨rfl,h⟩
 |some v=>exact⟨rfl,N v rfl rfl h⟩
theorem gF{K:DRho->Prop}(h:K L):dwss G c u [] L (donFl K Q) X:=h
def leG(hi:Bool)(a b:Int):Prop:=bif hi then a<=b else b<=a
def EnR(hi:Bool)(p:Pl)(e:Option Int)(O y:Pl->Int):Prop:=y=O\/∃v,e=Ja v/\leG hi v (y p)/\leG hi (y p) (O p)
theorem EnR.no{O y:Pl->Int}(h:EnR hi p Jb O y):y=O:=h.elim id λ⟨_,q,_⟩=>ns q
theorem gy{ps:List Pl}{R C:Nat->Int}(S:Sz ps h w)(D:p∈ps):∀ (k:Nat) (x:Pl->Int),Good ps h w R C (.tab x)->leG hi (x p) (cycF ps hi p k x p)
 |0=>λx o0=>by
  rcases hi with⟨⟩
  ·exact QV _
  ·exact QV _
 |k+1=>λx F=>by
  by_cases q:glG hi p∈(cmG ps hi p x).1/\(hi=Jd->x p≠0)
  ·have T:=iF S F D q.1 q.2;have I:=gy (hi:=hi) S D k _ T.fe;have m:=T.ms;rw[lI q]
   rcases hi with⟨⟩
   ·exact QE I<|Kz.mp λz=>QT.mpr (Int.toNat_le_toNat<|WC z) m
   ·exact QE (Kz.mp λz=>QT.mpr (Int.toNat_le_toNat<|Int.sub_le_sub_left (WC z) (R p.1)) m) I
  ·rw[jM q]
   rcases hi with⟨⟩
   ·exact QV _
   ·exact QV _
inductive GlI(ps:List Pl)(h w:Nat)(R Cc:Nat->Int)(hi:Bool)(p:Pl)(O:Pl->Int)(sf gd dE:D)(b1 b2 b3:Bool)(k:Nat)(Δ:DRho):Prop
 |mk (x:Pl->Int) (f:Nat) (u1 u2 u3 u4 u5:Option (D×Bool)) (F:Good ps h w R Cc (.tab x)) (hk:msG R hi p x=k) (hf:k<f) (hO:cycF ps hi p f x=O)
  (e:Δ=(Nb "self" b1 sf<|Nb "place" b2 (dP p)<|Nb "enough" b3 dE<|Nb "counts" Jc (dCt ps x)<|Nb "goal" Jc gd<|No "came" u1<|No "raised" u2<|No "lowered" u3<|No "start" u4<|No "amount" u5<|[])):GlI ps h w R Cc hi p O sf gd dE b1 b2 b3 k Δ
section
variable{C:Cx}{mg mb:Jq->Option Jf}{n:Nat}{Q:D->Bool->Prop}{X:DX}
theorem hX(e:Env1 C G1 mg mb){ps:List Pl}{R c:Nat->Int}{L:Pl->Int}(S:Sz ps h w)(N:NearX ps xs)(l:ps.length<=64)(s:Good ps h w R c (.tab L))(t:p∈ps)
  {d:Option Int}{dE:D}(I:EnK d dE)(m:∀y,EnR Jc p d (endF ps R Jc p L) y->Q (.tup [dCt ps y,dCm (cmG ps Jc p y)]) Jc):aR (aO C<|n+2) "Bounds.greatest" [(dIn ps L xs,b1),(dP p,b2),(dE,b3)] Q X:=by
 refine e.fn cP (by simp[tab]) rfl λV J PQ PX g=> ?_;dsimp only[cP];dsimp only[br,ci,bD];have P:h+w<=16:=Kg S.h8 S.w8;refine aZ ?_
 (dsimp only[bj,qe,bq,aF,aK,Qa,aM,aB,aA,aC,aE,bV,gz,aG,aJ,aL];refine⟨rfl,?_⟩)
 refine aS (pc _ _) ?_;dsimp only[uq];refine⟨⟨λq=>(by rw[KU.mp q] at t;cases t),λk M=> ?_,cH (λp=>D.int<|L p) (λa=>rfl) _⟩,?_⟩
 ·obtain⟨q,o,rfl⟩:=Qi.mp M;obtain⟨E,Y⟩:=S.mem q o;exact ub (QO E S.h8)<|QO Y S.w8
 refine aZ ?_;dsimp only[bR,fsts,dtup,aC,aH,aY,aW,aE,aI,aX,aU,aP,aN,aD,aG,Qa,aJ,aB,aA,aL,bX];refine fV ?_;dsimp only[bk];refine aS (gK p) ?_
 (dsimp only[bB,bk,bq,aF,aK,Qa,aM,aB,aA];refine⟨by decide,?_⟩)
 generalize U:endF ps R Jc p L=O at m;refine iX rfl (msG R Jc p L+1) ?_;refine fJ (GlI ps h w R c Jc p O (dIn ps L xs) (dN<|.r p.1) dE b1 b2 b3) ?_ _ (msG R Jc p L) _ (QG _) ⟨L,_,_,_,_,_,_,s,rfl,QG _,U,rfl⟩;rintro k r ⟨x,f,z,u2,u3,u4,A,F,M,W,U,rfl⟩ K i;clear s;dsimp only[cq,bM,aA];obtain⟨f,rfl⟩:∃B,f=B+1:=⟨f-1,by exact zpr W⟩
 obtain⟨b,o0⟩:=mF (x:=x) (hi:=Jc) S t;have T:=iF (hi:=Jc) S F t;refine aZ ?_
 (dsimp only[aQ,flags,aC,aH,aW,aE,aI,aU,aD,aG,Qa,aJ,aB,aA,aL,bv,fsts,dnew,aY,aX,bR,dtup,aP,aN,bX,cS,aT,gz];refine⟨rfl,?_⟩)
 refine aS (pI _ _) ?_;dsimp only[cS,aT];refine fD ?_;dsimp only[bk];refine aS (gC p) ?_
 (dsimp only[bB,bk,aF];refine⟨by decide,by decide,?_⟩)
 refine g.hc<|jf (ban:=Ja p) (st:=[.c p.2]) e N S.mem S.h8 S.w8 (QA.mpr ⟨λq=>(bN q),.nil⟩) (λy u=>b.val y<|b.has y u) ?_;dsimp only[aA,cS,bq,aF,aK,Qa,aM,aB];refine dJ ?_;dsimp only[dW,bM,aA,d8,bo,aD,aG,Qa,aJ,aB,aL,aP,et,ia];rw[rX,fE,ny,mT c6];refine qI (λE=> ?_) λE=> ?_
 ·rw[jM λq=>E q.1] at U;refine cK ?_
  (dsimp only[dS,c9,aY,dZ,aX,b8,aK,Qa,aM,aB,aA,aG,aJ,aL,dG];refine⟨rfl,rfl,by decide,?_⟩)
  exact g.qr<|m _ (.inl U)
 refine zC I (λv hv G Z=> ?_) ?_
 ·subst G;refine aS (ct bW (cI p) t) ?_;dsimp only[mO];refine cB (λY=> ?_) λo0=>Z;refine cK ?_
  (dsimp only[dS,c9,aY,dZ,aX,b8,aK,Qa,aM,aB,aA,aG,aJ,aL,dG];refine⟨rfl,rfl,by decide,?_⟩)
  exact g.qr<|m _ (.inr ⟨v,hv,Y,U▸gy S t _ _ F⟩)
 have T:=T E λq=>Bool.noConfusion q;rw[lI (hi:=Jc) ⟨E,λq=>Bool.noConfusion q⟩] at U;obtain⟨j,H⟩:=T.gB;refine gF ?_;refine d3 rfl ?_
 (dsimp only[aQ,flags,aC,aH,aW,aE,aI,aU,aD,aG,Qa,aJ,aB,aA,aL,cS,aT];refine⟨rfl,?_⟩)
 refine g.hc<|tZ (y:= .r p.1) e b P H ?_;dsimp only[aA,bI,tgl,bw,bC,bz,bA,aB,aF,bq,v9,aK,Qa,aM,bK];refine aZ ?_
 (dsimp only[bj,im,aC,aE,n8,bq,aF,aK,Qa,aM,aA,aB];refine⟨rfl,?_⟩)
 refine bY rfl ?_;dsimp only[fsts,de,aC,aH,aW,aE,aI,aU,c7,aD,aG,Qa,aJ,aB,aA,aL,bt,bH,cU];refine bS dP (λp=> .int (x p)) (λq o K k=> ?_) ?_
 ·dsimp only[bp,cr,b5,aM,Qa,aK,aB,aA,bK];dsimp only[elD];dsimp only[aP,aD,aJ,Qa,aG,aB,aA,aL,cS];refine aS (ct bW (cI q)<|T.inL q o) ?_;dsimp only[bB];exact k
 refine eD (fO _ _) ?_;refine⟨λq=>T.ne<|KU.mp q,?_⟩;refine jX ?_;rw[show spl _ _=Ja ([],"counts",[.bin .add (.loc "raised") (.list [.loc "place"]),.loc "lowered",.loc "amount"]) from rfl,sJ]
 (dsimp only[aK,Qa,aB,aA,aC,aH,aE,aI,aD,aG,aL,bB,bt,bl,bv,fsts,dnew,aY,aW,aX,aU,fy,tgl,bE];refine⟨rfl,rfl,rfl,by decide,?_⟩)
 refine⟨dX<|by rw[QD,Qd];exact zb2 (Kf (j3 _ 17 _).1 1) rfl,?_⟩;rw[iy dP,cH dP fb]
 (dsimp only[aA];refine⟨rfl,?_⟩)
 refine g.io<|oZ e S.nd l T.inR T.inL ?_;exact i _ _ (zq T.ms M) ⟨_,f,_,_,_,_,_,T.fe,rfl,zll (zq T.ms M)<|zs W,U,rfl⟩
theorem lR(e:Env1 C G1 mg mb){ps:List Pl}{R c:Nat->Int}{L:Pl->Int}(S:Sz ps h w)(N:NearX ps xs)(t:ps.length<=64)(Z:Good ps h w R c (.tab L))(U:p∈ps)
  {d:Option Int}{dE:D}(I:EnK d dE)(m:∀y,EnR Jd p d (endF ps R Jd p L) y->Q (.tup [dCt ps y,dCm (cmG ps Jd p y)]) Jc):aR (aO C<|n+2) "Bounds.least" [(dIn ps L xs,b1),(dP p,b2),(dE,b3)] Q X:=by
 refine e.fn dF (by simp[tab]) rfl λcl r PQ PX g=> ?_;dsimp only[dF];dsimp only[br,ci,bD];have s:h+w<=16:=Kg S.h8 S.w8;refine aZ ?_
 (dsimp only[bj,qe,bq,aF,aK,Qa,aM,aB,aA,aC,aE,bV,gz,aG,aJ,aL];refine⟨rfl,?_⟩)
 refine aS (pc _ _) ?_;dsimp only[uq];refine⟨⟨λq=>(by rw[KU.mp q] at U;cases U),λk M=> ?_,cH (λp=>D.int<|L p) (λa=>rfl) _⟩,?_⟩
 ·obtain⟨q,o,rfl⟩:=Qi.mp M;obtain⟨E,Y⟩:=S.mem q o;exact ub (QO E S.h8)<|QO Y S.w8
 refine aZ ?_;dsimp only[bR,fsts,dtup,aC,aH,aY,aW,aE,aI,aX,aU,aP,aN,aD,aG,Qa,aJ,aB,aA,aL,bX];refine fD ?_;dsimp only[bk];refine aS (gC p) ?_
 (dsimp only[bB,bk,bq,aF,aK,Qa,aM,aB,aA];refine⟨by decide,?_⟩)
 generalize P:endF ps R Jd p L=O at m;refine iX rfl (msG R Jd p L+1) ?_;refine fJ (GlI ps h w R c Jd p O (dIn ps L xs) (dN<|.c p.2) dE b1 b2 b3) ?_ _ (msG R Jd p L) _ (QG _) ⟨L,_,_,_,_,_,_,Z,rfl,QG _,P,rfl⟩;rintro k Δ ⟨x,f,J,u2,u3,u4,V,F,M,W,P,rfl⟩ K z;clear Z;dsimp only[cq,bM,aA];obtain⟨f,rfl⟩:∃B,f=B+1:=⟨f-1,by exact zpr W⟩
 obtain⟨b,o0⟩:=mF (x:=x) (hi:=Jd) S U;have T:=iF (hi:=Jd) S F U;refine aZ ?_
 (dsimp only[aQ,flags,aC,aH,aW,aE,aI,aU,aD,aG,Qa,aJ,aB,aA,aL,bv,fsts,dnew,aY,aX,bR,dtup,aP,aN,bX,cS,aT,gz];refine⟨rfl,?_⟩)
 refine aS (pI _ _) ?_;dsimp only[cS,aT];refine fV ?_;dsimp only[bk];refine aS (gK p) ?_
 (dsimp only[bB,bk,aF];refine⟨by decide,by decide,?_⟩)
 refine g.hc<|jf (ban:=Ja p) (st:=[.r p.1]) e N S.mem S.h8 S.w8 (QA.mpr ⟨λq=>(bN q),.nil⟩) (λy u=>b.val y<|b.has y u) ?_;dsimp only[aA,cS,bq,aF,aK,Qa,aM,aB];have i:¬ (glG Jd p∈(cmG ps Jd p x).1/\(Jd=Jd->x p≠0))->Q (.tup [dCt ps x,dCm (cmG ps Jd p x)]) Jc:=λq=>by
  rw[jM q] at P;exact m _<|.inl P
 refine dJ ?_;dsimp only[dW,bM,aA,d8,bo,aD,aG,Qa,aJ,aB,aL,aP,et,dy,deq,aN,ia];rw[rX,fE,ny,mT c6];refine qI (λE=> ?_) λE=> ?_
 ·refine cK ?_
  (dsimp only[dS,c9,aY,dZ,aX,b8,aK,Qa,aM,aB,aA,aG,aJ,aL,dG];refine⟨rfl,rfl,by decide,?_⟩)
  exact g.qr<|i λq=>E q.1
 refine aS (ct bW (cI p) U) ?_
 (dsimp only[cj];refine⟨⟨rfl,rfl⟩,?_⟩)
 refine cB (λY=> ?_) λY=> ?_
 ·refine cK ?_
  (dsimp only[dS,c9,aY,dZ,aX,b8,aK,Qa,aM,aB,aA,aG,aJ,aL,dG];refine⟨rfl,rfl,by decide,?_⟩)
  exact g.qr<|i λq=>q.2 rfl Y
 refine zC I (λv hv G A=> ?_) ?_
 ·subst G;refine aS (ct bW (cI p) U) ?_;dsimp only[nA];refine cB (λY=> ?_) λo0=>A;refine cK ?_
  (dsimp only[dS,c9,aY,dZ,aX,b8,aK,Qa,aM,aB,aA,aG,aJ,aL,dG];refine⟨rfl,rfl,by decide,?_⟩)
  exact g.qr<|m _ (.inr ⟨v,hv,Y,P▸gy S U _ _ F⟩)
 have T:=T E λo0=>Y;rw[lI ⟨E,λo0=>Y⟩] at P;obtain⟨j,H⟩:=T.gB;refine gF ?_;refine d3 rfl ?_
 (dsimp only[aQ,flags,aC,aH,aW,aE,aI,aU,aD,aG,Qa,aJ,aB,aA,aL,cS,aT];refine⟨rfl,?_⟩)
 refine g.hc<|tZ (y:= .c p.2) e b s H ?_;dsimp only[aA,bI,tgl,bw,bC,bz,bA,aB,aF,bq,v9,aK,Qa,aM,bK];have l:=(j3 (cmG ps Jd p x) 17<|.c p.2).2;refine aZ ?_
 (dsimp only[bj,im,aC,aE,n8,bq,aF,aK,Qa,aM,aA,aB];refine⟨rfl,?_⟩)
 refine bY rfl ?_
 (dsimp only[fsts,de,aC,aH,aW,aE,aI,aU,c7,bl,bv,dnew,aY,aX,aD,aG,Qa,aJ,aB,aA,aL,bt,fy,tgl,cU];refine⟨by decide,?_⟩)
 refine⟨dX<|by rw[QD,Qd];exact zb2 (Kf l 1) rfl,?_⟩;rw[iy dP];refine bS dP (λp=> .int (x p)) (λq o K k=> ?_) ?_
 ·dsimp only[bp,cr,b5,aM,Qa,aK,aB,aA,bK];dsimp only[elD];dsimp only[aP,aD,aJ,Qa,aG,aB,aA,aL,cS];refine aS (ct bW (cI q)<|T.inL q o) ?_;dsimp only[bB];exact k
 refine eD (fO _ _) ?_;refine⟨λq=>T.ne<|KU.mp q,?_⟩;refine jX ?_;rw[show spl _ _=Ja ([],"counts",[.loc "raised",.bin .add (.loc "lowered")<|.list [.loc "place"],.loc "amount"]) from rfl,sJ]
 (dsimp only[aK,Qa,aB,aA,aC,aH,aE,aI,aD,aG,aL,bB,bl,bv,fsts,dnew,aY,aW,aX,aU,bt,fy,tgl,bE];refine⟨rfl,rfl,rfl,by decide,?_⟩)
 refine⟨dX<|by rw[QD,Qd];exact zb2 (Kf l 1) rfl,?_⟩;rw[iy dP,cH dP fb]
 (dsimp only[aA];refine⟨rfl,?_⟩)
 refine g.io<|oZ e S.nd t T.inR T.inL ?_;exact z _ _ (zq T.ms M) ⟨_,f,_,_,_,_,_,T.fe,rfl,zll (zq T.ms M)<|zs W,P,rfl⟩
end
inductive PlK(h w:Nat):D->Bool->Prop
 |nt {d:D} (e:disi G1 d ["tuple"]=Ja Jd):PlK h w d Jd
 |tl {l:List D} (e:decide ((l.length:Int)=2)=Jd):PlK h w (.tup l) Jd
 |bb:PlK h w (.tup [.bool Jd,.bool Jd]) Jd
 |ii (a b:Int):PlK h w (.tup [.int a,.int b]) (decide (a>=0)&&(decide (b>=0)&&(decide (a<h)&&decide (b<w))))
inductive PlA(c:List (List (Option Int)))(h w:Nat):D->Option Pl->Prop
 |bad {d:D} {v:Bool} (k:PlK h w d v) (e:v=Jc->∃q,d=dP q/\q∉psF c h w):PlA c h w d Option.none
 |ok {p:Pl} (hp:p∈psF c h w):PlA c h w (dP p) (Ja p)
theorem zy{p:Pl}(N:p.1<h)(Y:p.2<w):PlK h w (dP p) Jc:=by
 have:=PlK.ii (h:=h) (w:=w) p.1 p.2;rw[Y4 (show(p.1:Int)>=0 from QP _),Y4 (show(p.2:Int)>=0 from QP _),Y4<|Kj.mpr N,Y4 (Kj.mpr Y)] at this;exact this
theorem ww(ps:List Pl)(q:Pl):((ps.map dP).any λd=>D.eqv d (dP q))=decide (q∈ps):=by
 rw[List.any_map,We,Wl,Ua]
 constructor
 ·rintro ⟨x,hx,h⟩;have h:D.eqv (dP x) (dP q)=Jc:=h;rw[rA,Ua] at h;exact h▸hx
 ·exact λi=>⟨q,i,fK _⟩
theorem vp(d:D):tg0 d Jb=Jb:=by unfold tg0;cases d.atom<;>rfl
theorem sx{a b:D}(h:c=Jc->a.atom=v)(p:c=Jd->b.atom=v):(cond c a b).atom=v:=by
 induction c with
 |true=>exact h rfl
 |false=>exact p rfl
theorem zR{K:Bool->Prop}(e:t=Ja v)(k:K v):oB K t:=by subst e;exact k
theorem wC{M:D->DRho->Prop}(a i:E):dwm G c (.sub a i) L M=dwe G c (.sub a i) L (λd t=>t=Jb/\M d L) λo0 o0=>False:=rfl
def lowD(ps:List Pl)(h w:Nat)(p:Pl)(x:Pl->Int):D:=cond (decide<|x p>0) (.tup [.int (x p),dNs<|numF Jc h (cmG ps Jd p x).1,dNs (numF Jd w (cmG ps Jd p x).1)])<|.tup [.int 0,.list [],.list []]
def higD(ps:List Pl)(h w:Nat)(p:Pl)(x:Pl->Int):D:= .tup [.int (x p),dNs ((Qc h).filter λk=> !decide (Nd.r k∈(cmG ps Jc p x).1)),dNs ((Qc w).filter λk=> !decide (Nd.c k∈(cmG ps Jc p x).1))]
theorem zgw1{y x w H L:Int}(h:y-x>=w)(a:y<=H)(b:L<=x):w<=H-L:=QE h<|Int.sub_le_sub a b
theorem zgw2{y x w:Int}(h:x+w<=y):y-x>=w:=Int.le_sub_left_of_add_le h
theorem zgw3{z y w L:Int}(h:z<=y-w)(b:L<=z):w<=y-L:=Int.le_sub_right_of_add_le<|Kr L w▸Int.add_le_of_le_sub_right (QE b h)
theorem zgw4{z y w:Int}(h:z<=y-w):w<=y-z:=zgw3 h<|QV z
section
variable{C:Cx}{mg mb:Jq->Option Jf}{n:Nat}{Q:D->Bool->Prop}{X:DX}
theorem sX(e:Env1 C G1 mg mb)(k:Q (.bool Jd) Jc):aR (aO C (n+1)) "is_count" [(.bool v,b)] Q X:=by
 refine e.fn dY (by simp[tab]) rfl λc u P PX g=> ?_;dsimp only[dY];dsimp only[br,ci,bD];refine b0 ?_
 (dsimp only[d8,bo,aF,aN,aD,aG,Qa,aA,aL,cA,bM,f8,zY,lU,fN,aB,zM];refine⟨rfl,rfl,?_⟩)
 exact g.qr k
theorem p6(e:Env1 C G1 mg mb)(R:Rect c h w){d:D}(hd:PlK h w d v)(k:Q (.bool v) Jc):aR (aO C (n+2)) "is_place" [(d,b),(dC c,b')] Q X:=by
 refine e.fn gk (by simp[tab]) rfl λcl cu PQ PX gg=> ?_;dsimp only[gk];dsimp only[br,ci,bD];refine dJ ?_
 (dsimp only[dW,bM,aA,cA,aQ,flags,aC,aH,aE,aI,aP,aN,aD,aG,Qa,aB,aL,bo,ti,deq,bj,bU,cj,bV,f8];refine⟨rfl,?_⟩)
 induction hd with
 |nt h1=>
  refine zR h1 ?_;dsimp only[mW,aA];refine b0 ?_;dsimp only[cq,aF];exact gg.qr k
 |tl h1=>
  (dsimp only[bI,tgl,pt,cD,pM,lU,fN,aB];refine⟨rfl,⟨rfl,rfl⟩,?_⟩)
  rw[h1];dsimp only[mW,aA];refine b0 ?_;dsimp only[cq,aF];exact gg.qr k
 |bb=>
  (dsimp only[bI,tgl,bw,zo,bz,eW,aA,gM,ce,oq,aF,ey,pt,aY,aX,cD,pM,lU,fN,aB];refine⟨rfl,⟨rfl,rfl⟩,?_⟩)
  rw[show decide (((0+1+1:Nat):Int)=2)=Jc from rfl]
  (dsimp only[fN,aB];refine⟨rfl,?_⟩)
  refine gg.hc<|sX e ?_;dsimp only[bM,mW,aA];refine b0 ?_;dsimp only[cq,aF];exact gg.qr k
 |ii x y=>
  (dsimp only[bI,tgl,bw,eY,bz,eW,aA,gM,ce,bB,aF,ey,pt,aY,aX,cD,pM,lU,fN,aB];refine⟨rfl,⟨rfl,rfl⟩,?_⟩)
  rw[show decide (((0+1+1:Nat):Int)=2)=Jc from rfl]
  (dsimp only[fN,aB];refine⟨rfl,?_⟩)
  refine gg.hc<|iH e ?_;dsimp only[bM];refine qI (λh1=> ?_) λh1=> ?_
  ·rw[Y5 h1] at k;refine b0 ?_;dsimp only[cq,aF];exact gg.qr k
  rw[Y4 h1] at k;refine⟨rfl,?_⟩;refine gg.hc<|iH e ?_;dsimp only[bM];refine qI (λh2=> ?_) λh2=> ?_
  ·rw[Y5 h2] at k;refine b0 ?_;dsimp only[cq,aF];exact gg.qr k
  rw[Y4 h2] at k;refine b0 ?_
  (dsimp only[d8,bo,aF,bj,bU,aC,aE,bV,aP,aN,aD,aG,Qa,aA,aB,aL,gM,ce,nk,bM,cg,cD,ey];refine⟨rfl,?_⟩)
  rw[Qd,R.len];refine cB (λh3=> ?_) λh3=> ?_
  ·rw[Y4 h3] at k;refine⟨rfl,?_⟩;refine aS (ew (i:=0) R<|QO Nat.zero_lt_one R.h1) ?_;dsimp only[cg,cD];rw[Qd,(R.at_<|QO Nat.zero_lt_one R.h1).2];exact gg.qr k
  ·rw[Y5 h3] at k;exact gg.qr k
theorem th(e:Env1 C G1 mg mb)(K:ClsC C cls8){ps:List Pl}{x:Pl->Int}(h:ps.length<=64)(k:∀xs,NearX ps xs->Q (dIn ps x xs) Jc):aR (aO C (n+3)) "Bounds" [(dCt ps x,Jc)] Q X:=by
 refine vG e.g (todoE e.g e.x) K rfl (by decide) ?_;dsimp only[cls8]
 (dsimp only[aQ,flags,aC,aH,aW,aE,aI,aU,bj,iS,bV,aD];refine⟨rfl,rfl,?_⟩)
 refine⟨⟨by rw[Qd];exact dX<|by exact zb2 h rfl,λq o=> ?_⟩,?_⟩
 ·obtain⟨y,o0,rfl⟩:=Qi.mp o;exact dX (show 2<=1000 by decide)
 rw[pj];refine tB (n:=n) e h λxs N=> ?_;exact⟨rfl,k xs N⟩
theorem wJ(e:Env1 C G1 mg mb)(K:ClsC C cls8)(V:VOK c r s h w){d:D}(hd:PlA c h w d o)(kb:o=Jb->X "BadPlace" [])
  (kt:∀p x xs,o=Ja p->d=dP p->p∈psF c h w->outV c r s h w= .tab x->NearX (psF c h w) xs->Q (dIn (psF c h w) x xs) Jc)
  (kx:∀p pa pb,o=Ja p->outV c r s h w= .no pa pb->X "NoTable" [dNs ((Qc h).filter pa),dNs ((Qc w).filter pb)]):aR (aO C<|n+5) "bounds_at" [(.tup [dC c,dI r,dI s],b),(d,b')] Q X:=by
 refine e.fn fu (by simp[tab]) rfl λcl cu PQ PX gg=> ?_;dsimp only[fu];dsimp only[br,ci,bD];refine f7 ?_
 (dsimp only[aQ,flags,aC,aH,aE,aI,aD,aG,Qa,aB,aA,aL,bI,tgl,bw,bC,bz,bA,aT];refine⟨rfl,?_⟩)
 refine gg.hc<|h9 e V ?_;have okp:D.okds 40 ((psF c h w).map dP)=Jc:=eT dP (λp=>rfl) _;have rs:o=Jb->dwss G1 cl cu [.raise "BadPlace" [.str "no hidden place"]] (Nb "view" b (D.tup [dC c,dI r,dI s])<|Nb "place" b' d<|[]) (donFl (λΔ1=>dwss G1 cl cu [.ret (.call "Bounds" [.call "counts_of" [.loc "view"]])] Δ1 PQ PX) PQ) PX:=λq=>by
  refine pP ⟨rfl,rfl,.inl rfl⟩ ?_
  (dsimp only[fsts,aC,aW,aH,aE,aU,aI,wo,bk];refine⟨rfl,?_⟩)
  exact gg.qx<|kb q
 refine dJ ?_
 induction hd with
 |@bad d v hk hv=>
  (dsimp only[dW,bM,aA,bo,ia,aQ,flags,aC,aH,aE,aI,aP,aN,aD,aG,Qa,aB,aL,bI,tgl,bw,bC,bz,bA,cz,ce,bt,aT,cA];refine⟨rfl,?_⟩)
  refine gg.hc<|p6 e V.R hk ?_;dsimp only[bM];refine ki (λh1=> ?_) λh1=>rs rfl;obtain⟨q,rfl,hq⟩:=hv h1;refine⟨rfl,?_⟩;refine gg.hc<|gc e V.R ?_;rw[ya];refine⟨⟨nW q,okp⟩,?_⟩;rw[ww,Y5 hq];exact rs rfl
 |@ok p hp=>
  obtain⟨p1,p2,o0⟩:=eV hp
  (dsimp only[dW,bM,aA,bo,ia,aQ,flags,aC,aH,aE,aI,aP,aN,aD,aG,Qa,aB,aL,bI,tgl,bw,bC,bz,bA,cz,ce,bt,aT,cA];refine⟨rfl,?_⟩)
  refine gg.hc<|p6 e V.R (zy p1 p2) ?_
  (dsimp only[bM,fN,aB];refine⟨rfl,?_⟩)
  refine gg.hc<|gc e V.R ?_;rw[ya];refine⟨⟨nW p,okp⟩,?_⟩;rw[ww,Y4 hp];dsimp only[fN,aB];refine b0 ?_
  (dsimp only[aQ,flags,aC,aH,aW,aE,aI,aU,aD,aG,Qa,aB,aA,aL,bI,tgl,bw,bC,bz,bA,aT,bH,bZ,bE];refine⟨rfl,rfl,?_⟩)
  refine gg.hc (iq e V (λx hx=> ?_) λpa pb hx=>gg.qx<|kx p pa pb rfl hx);dsimp only[aA,cS,aF,bk,bH];exact gg.hc<|th e K (gf V.R.h8 V.R.w8) λxs N=>gg.qr<|kt p x xs rfl rfl hp hx N
theorem rC(e:Env1 C G1 mg mb)(K:ClsC C cls8)(V:VOK c r s h w){d:D}(A:PlA c h w d o)(P:o=Jb->X "BadPlace" [])
  (k:∀p x,o=Ja p->outV c r s h w= .tab x->Q (.tup [dT (tabV c (endF (psF c h w) (r1F c r) Jd p x) h w),dT (tabV c (endF (psF c h w) (r1F c r) Jc p x) h w)]) Jc)
  (v:∀p pa pb,o=Ja p->outV c r s h w= .no pa pb->X "NoTable" [dNs ((Qc h).filter pa),dNs ((Qc w).filter pb)]):aR (aO C<|n+6) "ends" [(.tup [dC c,dI r,dI s],b),(d,b')] Q X:=by
 refine e.fn lH (by simp[tab]) rfl λM u i PX g=> ?_;dsimp only[lH];dsimp only[br,ci,bD];have G:Good (psF c h w) h w (r1F c r) (r2F c s) (outV c r s h w):=gN (fw V.R) _ _ _ _ (fill0 V)<|QG _;refine aZ ?_
 (dsimp only[aQ,flags,aC,aH,aW,aE,aI,aU,aD,aG,Qa,aJ,aB,aA,aL,bI,tgl,bw,bC,bz,bA,aT];refine⟨rfl,?_⟩)
 refine g.hc (wJ e K V A (λq=>g.qx<|P q) (λp x H T I U hx N=> ?_) λp pa pb T hx=>g.qx<|v p pa pb T hx);subst I;rw[hx] at G;dsimp only[aA,kR,tgl,bw,dG,bz,bA,aB,bq,aF,aK,Qa,aM];have S:=fw V.R;have l:=gf (c:=c) V.R.h8 V.R.w8;refine aZ ?_
 (dsimp only[aP,aN,du,aH,aW,aC,aE,aI,aU,fM,aF,bk,aD,aG,Qa,aJ,aB,aA,aL,jF,kR,tgl,bw,dG,bz,bA,aT];refine⟨rfl,trivial,?_⟩)
 refine g.hc (lR e S N l G U .none λy W=> ?_);rw[W.no];dsimp only[aA,bI,tgl,bw,dG,bz,bA,aB,ey,ce,cS,bq,aF,aK,Qa,aM];refine aZ ?_
 (dsimp only[aP,aN,du,aH,aW,aC,aE,aI,aU,fM,aF,bk,aD,aG,Qa,aJ,aB,aA,aL,jF,kR,tgl,bw,dG,bz,bA,aT];refine⟨rfl,trivial,?_⟩)
 refine g.hc (hX e S N l G U .none λy W=> ?_);rw[W.no];dsimp only[aA,bI,tgl,bw,dG,bz,bA,aB,ey,ce,cS,bq,aF,aK,Qa,aM];refine b0 ?_
 (dsimp only[bR,fsts,dtup,aC,aH,aY,aW,aE,aI,aX,aU,aQ,flags,aD,aG,Qa,aA,aB,aL,cS,aT,bH,bI,tgl,bw,bC,bz,bA,bZ,f0,bE];refine⟨rfl,?_⟩)
 refine g.hc<|fY e V.R ?_
 (dsimp only[aA,bt,bk];refine⟨rfl,?_⟩)
 refine g.hc<|fY e V.R ?_
 (dsimp only[aA,bt,bk,aF];refine⟨by decide,?_⟩)
 exact g.qr<|k p x T hx
theorem r7(e:Env1 C G1 mg mb){ps:List Pl}{R P:Nat->Int}{L:Pl->Int}(S:Sz ps h w)(N:NearX ps xs)(l:ps.length<=64)(F:Good ps h w R P (.tab L))(D:p∈ps)
  (q:Q (.tup [lowD ps h w p (endF ps R Jd p L),higD ps h w p (endF ps R Jc p L)]) Jc):aR (aO C<|n+3) "Bounds.walls" [(dIn ps L xs,b1),(dP p,b2),(.int h,b3),(.int w,V)] Q X:=by
 refine e.fn f_Bounds_walls (by simp[tab]) rfl λM c G PX g=> ?_;dsimp only[f_Bounds_walls];dsimp only[br,ci,bD];have U:h+w<=16:=Kg S.h8 S.w8;refine d3 rfl ?_
 (dsimp only[du,aH,aW,aC,aE,aI,aU,fM,aF,bk,aD,aG,Qa,aJ,aB,aA,aL,jF,kR,tgl,bw,dG,bz,bA,aT];refine⟨rfl,trivial,?_⟩)
 refine g.hc (lR e S N l F D .none λy W=> ?_);rw[W.no];dsimp only[aA,bI,tgl,bw,dG,bz,bA,aB,aF,bq,jH,aK,Qa,aM,bK];generalize endF ps R Jd p L=x at q ⊢;obtain⟨s,o0⟩:=mF (x:=x) (hi:=Jd) S D;have B:=s.len;have f:∀d u o,d=lowD ps h w p x->dwss G1 M c (f_Bounds_walls.b.drop 3) (Nb "self" b1 (dIn ps L xs)<|Nb "place" b2 (dP p)<|Nb "many_rows" b3 (.int h)<|Nb "many_columns" V (.int w)<|No "counts" u<|No "came" o<|Nb "low" Jc d<|No "rows" Jb<|No "columns" Jb<|[]) G PX:=λd u o H=>by
  dsimp only[f_Bounds_walls,List.drop];have a:d.atom=Jd:=by
   rw[H];unfold lowD;exact sx (λo0=>rfl) λo0=>rfl
  rw[<-H] at q;clear H;refine d3 rfl ?_
  (dsimp only[du,aH,aW,aC,aE,aI,aU,fM,aF,bk,aD,aG,Qa,aJ,aB,aA,aL,jF,kR,tgl,bw,dG,bz,bA,aT];refine⟨rfl,trivial,?_⟩)
  refine g.hc (hX e S N l F D .none λy W=> ?_);rw[W.no];dsimp only[aA,bI,tgl,bw,dG,bz,bA,aB,aF,bq,jH,aK,Qa,aM,bK];generalize endF ps R Jc p L=y at q ⊢;unfold higD at q;refine aZ ?_;refine cG rfl ?_;dsimp only[fsts,aC,aH,aW,aE,aI,aU,aD,aG,Qa,aJ,aB,aA,aL,bB,bk,eA,eP];refine⟨rg S.h8,fx (λ(k:Nat)=> .int (k:Int)) (λk=> !decide (Nd.r k∈(cmG ps Jc p y).1)) (λi t=> ?_) ?_⟩
  ·dsimp only[bp,cr,b5,aM,Qa,aK,aB,aA,bK];refine⟨λT Y=> ?_,λo0 K k=> ?_⟩
   ·dsimp only[tstD];dsimp only[bo,bM,ia,aD,aJ,Qa,aG,aB,aA,aL,bR,fsts,dtup,aC,aH,aY,aE,aI,aX,bX];refine fV ?_;refine⟨by decide,?_⟩;rw[rX,show keyD (.tup [.str "row",.int i])=Ja (Nd.key<|.r i) from rfl,ny,mT c6];exact Y
   ·dsimp only[elD];dsimp only[aD,aJ,Qa,aG,aB,aA,aL,bB];exact k
  dsimp only[bq,aF,aK,Qa,aM,aB,aA];refine aZ ?_;refine cG rfl ?_;dsimp only[fsts,aC,aH,aW,aE,aI,aU,aD,aG,Qa,aJ,aB,aA,aL,bB,bk,eA,eP];refine⟨rg S.w8,fx (λ(k:Nat)=> .int (k:Int)) (λk=> !decide (Nd.c k∈(cmG ps Jc p y).1)) (λi t=> ?_) ?_⟩
  ·dsimp only[bp,cr,b5,aM,Qa,aK,aB,aA,bK];refine⟨λT Y=> ?_,λo0 K k=> ?_⟩
   ·dsimp only[tstD];dsimp only[bo,bM,ia,aD,aJ,Qa,aG,aB,aA,aL,bR,fsts,dtup,aC,aH,aY,aE,aI,aX,bX];refine fD ?_;refine⟨by decide,?_⟩;rw[rX,show keyD (.tup [.str "column",.int i])=Ja (Nd.key<|.c i) from rfl,ny,mT c6];exact Y
   ·dsimp only[elD];dsimp only[aD,aJ,Qa,aG,aB,aA,aL,bB];exact k
  dsimp only[bq,aF,aK,Qa,aM,aA,aB];refine cK ?_;dsimp only[dS,c9,aY,dZ,aX,b8,aK,Qa,aB,aA,aG,aL];rw[a]
  (dsimp only[aB];refine⟨rfl,?_⟩)
  rw[wC];dsimp only[aK,Qa,aA,aB,aG,aL,bC,aP,aD,cS];refine aS (ct bW (cI p) D) ?_
  (dsimp only[bB];refine⟨rfl,rfl,rfl,by decide,by decide,?_⟩)
  exact g.qr q
 refine aZ ?_
 (dsimp only[bR,fsts,dtup,aC,aH,aY,aW,aE,aI,aX,aU,bv,dnew,bk,aN,bq,aF,aK,Qa,aM,aB,aA];refine⟨by decide,by decide,by decide,?_⟩)
 refine dJ ?_;dsimp only[bo,bM,aN,aP,aD,aG,Qa,aJ,aB,aA,aL];refine aS (ct bW (cI p) D) ?_;dsimp only[j0];refine cB (λE=> ?_) λE=> ?_
 ·refine aZ ?_;dsimp only[bR,fsts,dtup,aC,aH,aY,aW,aE,aI,aX,aU,aQ,flags,bX,aD,aG,Qa,aJ,aB,aA,aL,cS,aT,aP];refine aS (ct bW (cI p) D) ?_
  (dsimp only[bB,bk];refine⟨rfl,?_⟩)
  refine fV ?_;dsimp only[aF,bk,bH,bZ,bE];refine g.hc<|j4 (b:=Jc) (m:=h) e s.nd (by exact zle B U) (λy W r=>(j9<|s.val y W).1 r) ?_
  (dsimp only[aA,bt,bk];refine⟨rfl,?_⟩)
  refine fD ?_;dsimp only[aF,bk,bH,bZ,bE];refine g.hc<|j4 (b:=Jd) (m:=w) e s.nd (by exact zle B U) (λy W r=>(j9<|s.val y W).2 r) ?_
  (dsimp only[aA,bt,bk,bq,aF,aK,Qa,aM,aB];refine⟨by decide,?_⟩)
  refine f _ _ _ ?_;unfold lowD;rw[Y4 E];rfl
 ·refine f _ _ _ ?_;unfold lowD;rw[Y5 E];rfl
theorem uJ(e:Env1 C G1 mg mb)(K:ClsC C cls8)(V:VOK c r s h w){d:D}(W:PlA c h w d o)(P:o=Jb->X "BadPlace" [])
  (k:∀p x,o=Ja p->outV c r s h w= .tab x->Q (.tup [lowD (psF c h w) h w p (endF (psF c h w) (r1F c r) Jd p x),higD (psF c h w) h w p (endF (psF c h w) (r1F c r) Jc p x)]) Jc)
  (v:∀p pa pb,o=Ja p->outV c r s h w= .no pa pb->X "NoTable" [dNs ((Qc h).filter pa),dNs ((Qc w).filter pb)]):aR (aO C<|n+6) "walls" [(.tup [dC c,dI r,dI s],b),(d,b')] Q X:=by
 refine e.fn jJ (by simp[tab]) rfl λl u y PX g=> ?_;dsimp only[jJ];dsimp only[br,ci,bD];have G:Good (psF c h w) h w (r1F c r) (r2F c s) (outV c r s h w):=gN (fw V.R) _ _ _ _ (fill0 V)<|QG _;refine b0 ?_
 (dsimp only[du,aH,aW,aC,aE,aI,aU,bj,bU,aF,bk,bV,aP,aN,aD,aG,Qa,aB,aA,aL,jl,ce,cg,cD,jo,aQ,flags,bI,tgl,bw,bC,bz,bA,aT];refine⟨rfl,rfl,?_⟩)
 refine g.hc (wJ e K V W (λq=>g.qx<|P q) (λp x H T I U hx N=> ?_) λp pa pb T hx=>g.qx<|v p pa pb T hx);subst I;rw[hx] at G
 (dsimp only[jF,aA,kR,tgl,bw,dG,bz,bA,aB,aF,bk];refine⟨trivial,rfl,rfl,?_⟩)
 rw[Qd,Qd,V.hr,V.hs];refine g.hc<|r7 e (fw V.R) N (gf (c:=c) V.R.h8 V.R.w8) G U ?_;dsimp only[aA];rw[vp];exact g.qr<|k p x T hx
theorem qB(e:Env1 C G1 mg mb)(hi:1<=i)(k:Q .none Jc):aR (aO C (n+2)) "need_number" [(.int i,b)] Q X:=by
 refine e.fn ef (by simp[tab]) rfl λc u P PX g=> ?_;dsimp only[ef];dsimp only[br,ci,bD];refine dJ ?_
 (dsimp only[dW,bM,aA,bo,dy,deq,aN,aD,aG,Qa,aL,cj,cA,aQ,flags,aC,aH,aE,aI,bB,aF];refine⟨rfl,?_⟩)
 refine g.hc<|iH e ?_;dsimp only[bM];rw[Y4 (show i>=0 from QE (by decide) hi)]
 (dsimp only[fN,aB];refine⟨⟨rfl,rfl⟩,?_⟩)
 rw[Y5 (λq:i=0=>by rw[q] at hi;exact absurd hi<|by decide)];exact g.qn k
def gwF(ps:List Pl)(R:Nat->Int)(x:Pl->Int)(wd:Int)(p:Pl):Bool:=decide<|endF ps R Jc p x p-endF ps R Jd p x p<wd
theorem ri(e:Env1 C G1 mg mb){ps:List Pl}{R u:Nat->Int}{x:Pl->Int}(S:Sz ps h w)(N:NearX ps xs)(l:ps.length<=64)(F:Good ps h w R u (.tab x))(D:p∈ps){wd:Int}
  (k:Q (.bool<|gwF ps R x wd p) Jc):aR (aO C<|n+3) "Bounds.is_given_away" [(dIn ps x xs,b1),(dP p,b2),(.int wd,b3)] Q X:=by
 refine e.fn ca (by simp[tab]) rfl λM j i PX g=> ?_;dsimp only[ca];dsimp only[br,ci,bD];have m:endF ps R Jd p x p<=x p:=gy (hi:=Jd) S D _ x F;have B:x p<=endF ps R Jc p x p:=gy (hi:=Jc) S D _ x F;unfold gwF at k;generalize f:endF ps R Jc p x=H at k B;generalize K:endF ps R Jd p x=L at k m;refine aZ ?_;dsimp only[aP,aD,aG,Qa,aJ,aB,aA,aL,gz];refine aS (pc _ _) ?_;dsimp only[cS];refine aS (ct bW (cI p) D) ?_;dsimp only[bB,bq,aF,aK,Qa,aM,aB,aA];refine aZ ?_
 (dsimp only[aP,aD,aG,Qa,aJ,aB,aA,aL,aN,du,aH,aW,aC,aE,aI,aU,bl,bB,cm,aF,bk,jF,kR,tgl,bw,dG,bz,bA,aT];refine⟨rfl,trivial,?_⟩)
 refine g.hc (hX e S N l F D (.some _) λy W=> ?_);rw[f] at W;dsimp only[aA,bI,tgl,bw,dG,bz,bA,aB,ey,ce,cS];refine aS (ct bW (cI p) D) ?_;dsimp only[bB,bq,aF,aK,Qa,aM,aA,aB];refine dJ ?_;dsimp only[bo,bM,aD,aG,Qa,aB,aA,aL,bl,bB,cT,mO];have t:y p<=H p:=W.elim (λq=>q▸QV _) λ⟨_,_,_,q⟩=>q;refine cB (λE=> ?_) λE=> ?_
 ·rw[Y5 (Kz.mpr<|zgw1 E t m)] at k;refine b0 ?_;dsimp only[cq,aF];exact g.qr k
 have P:y=H:=W.elim id λ⟨v,c,Z,_⟩=>absurd (sj c▸Z:x p+wd<=y p) λq=>E<|zgw2 q;subst P;refine gF ?_;refine b0 ?_
 (dsimp only[bo,aF,aD,aG,Qa,aB,aA,aL,bl,aP,aN,du,aH,aW,aC,aE,aI,aU,bB,cT,bk,jF,kR,tgl,bw,dG,bz,bA,aT];refine⟨rfl,trivial,?_⟩)
 refine g.hc (lR e S N l F D (.some _) λz T=> ?_);rw[K] at T;dsimp only[aA,bI,tgl,bw,dG,bz,bA,aB,ey,ce,cS];refine aS (ct bW (cI p) D) ?_;dsimp only[cT,nk]
 rcases T with rfl|⟨v,c,Z,o⟩
 ·exact g.qr k
 ·have Z:z p<=y p-wd:=sj c▸Z;have o:L p<=z p:=o;rw[Y5 (Kz.mpr<|zgw3 Z o)] at k;rw[Y5 (Kz.mpr<|zgw4 Z)];exact g.qr k
theorem qj(e:Env1 C G1 mg mb)(K:ClsC C cls8)(V:VOK c r s h w){wd:Int}(d:1<=wd)
  (t:∀x,outV c r s h w= .tab x->Q (.list<|((psF c h w).filter (gwF (psF c h w) (r1F c r) x wd)).map dP) Jc)
  (v:∀pa pb,outV c r s h w= .no pa pb->X "NoTable" [dNs ((Qc h).filter pa),dNs ((Qc w).filter pb)]):aR (aO C<|n+6) "given_away" [(.tup [dC c,dI r,dI s],b),(.int wd,b')] Q X:=by
 refine e.fn eL (by simp[tab]) rfl λl u P PX g=> ?_;dsimp only[eL];dsimp only[br,ci,bD];have G:Good (psF c h w) h w (r1F c r) (r2F c s) (outV c r s h w):=gN (fw V.R) _ _ _ _ (fill0 V)<|QG _;refine f7 ?_
 (dsimp only[aQ,flags,aC,aH,aE,aI,aD,aG,Qa,aJ,aB,aA,aL,bI,tgl,bw,bC,bz,bA,aT];refine⟨rfl,?_⟩)
 refine g.hc<|h9 e V ?_;refine f7 ?_
 (dsimp only[aQ,flags,aC,aH,aE,aI,aD,aG,Qa,aJ,aB,aA,aL,bB,aF];refine⟨rfl,?_⟩)
 refine g.hc<|qB e d ?_;refine aZ ?_
 (dsimp only[aQ,flags,aC,aH,aW,aE,aI,aU,aD,aG,Qa,aJ,aB,aA,aL,bI,tgl,bw,bC,bz,bA,aT,bH,bZ,bE];refine⟨rfl,rfl,?_⟩)
 refine g.hc (iq e V (λx hx=> ?_) λpa pb hx=>g.qx<|v pa pb hx);rw[hx] at G;dsimp only[aA,cS,aF,bk,bH];refine g.hc (th e K (gf V.R.h8 V.R.w8) λH N=> ?_);dsimp only[aA,kR,tgl,bw,dG,bz,bA,aB,bq,aF,aK,Qa,aM];refine b0 ?_;refine cG rfl ?_
 (dsimp only[fsts,aC,aH,aW,aE,aI,aU,c7,aQ,flags,aP,aN,aD,aG,Qa,aB,aA,aL,bI,tgl,bw,bC,bz,bA,cz,ce,bt,aT,bH,bZ,bE];refine⟨rfl,?_⟩)
 refine g.hc<|gc e V.R ?_;dsimp only[cU,aA,bt,bk];refine cY dP dP (gwF (psF c h w) (r1F c r) x wd) (λp D=> ?_) ?_
 ·dsimp only[dP];dsimp only[bp,cr,b5,aM,Qa,aK,aB,aA,bK];refine⟨λT Y=> ?_,λo0 K k=> ?_⟩
  ·dsimp only[tstD]
   (dsimp only[du,aH,aC,aE,aI,aD,aJ,Qa,aG,aB,aA,aL,bB,aF,bI,tgl,bw,eY,bz,eW,jF,kR,dG,bA,aT];refine⟨rfl,trivial,?_⟩)
   exact g.hc<|ri e (fw V.R) N (gf (c:=c) V.R.h8 V.R.w8) G D Y
  ·dsimp only[elD];dsimp only[aD,aJ,Qa,aG,aB,aA,aL,bI,tgl,bw,eY,bz,eW];exact k
 dsimp only[aF];exact g.qr<|t x hx
end
theorem iQ{f g:Pl->Bool}{x:Pl->Int}:∀ {ps:List Pl},(∀p∈ps,0<=x p)->(∀p∈ps,f p=Jc->g p=Jc\/x p=0)->sumOn f ps x<=sumOn g ps x
 |[]=>λo0 o0=>QV _
 |q::ps=>λi h=>by
  rw[cw,cw];refine Int.add_le_add ?_ (iQ (λp D=>i p<|.tail _ D) λp D=>h p<|.tail _ D);have M:=i q<|.head _;have z1:=h q<|.head _
  induction j:f q with
  |false=>
   induction g q with
   |false=>exact QV _
   |true=>exact M
  |true=>
   rcases z1 j with z|z
   ·rw[z];exact QV _
   ·rw[z]
    induction g q with
    |false=>exact QV _
    |true=>exact QV _
section
variable{ps:List Pl}{h w:Nat}{R C:Nat->Int}{x y:Pl->Int}{hi:Bool}{p:Pl}
theorem rN(S:Sz ps h w)(F:Good ps h w R C (.tab y))(pa pb:Nat->Bool):(((Qc h).filter pa).map R).sum-(((Qc w).filter pb).map C).sum=sumOn (λq=>pa q.1) ps y-sumOn (λq=>pb q.2) ps y:=by
 have T:(((Qc h).filter pa).map R).sum=sumOn (λq=>decide<|q.1∈(Qc h).filter pa) ps y:=by
  rw[<-cQ (f:=(·.1)) (Km.filter _)];exact Ub Ww<|Qo λi hi=>(F.2.1 i<|Qh.mp (Qj.mp hi).1).symm
 have e:(((Qc w).filter pb).map C).sum=sumOn (λq=>decide<|q.2∈(Qc w).filter pb) ps y:=by
  rw[<-cQ (f:=(·.2)) (Km.filter _)];exact Ub Ww<|Qo λi hi=>(F.2.2 i<|Qh.mp (Qj.mp hi).1).symm
 rw[T,e]
 congr 1
 ·refine gE λq o=> .inl ?_;rw[We,Ua,Qj,Qh];exact⟨λz=>z.2,λz=>⟨(S.mem q o).1,z⟩⟩
 ·refine gE λq o=> .inl ?_;rw[We,Ua,Qj,Qh];exact⟨λz=>z.2,λz=>⟨(S.mem q o).2,z⟩⟩
theorem zc1{a b x:Int}(h:a+ -x<=b+0):a-b<=x:=Int.sub_left_le_of_le_add<|Int.le_add_of_sub_right_le (by rw[QW,<-Ko] at h;exact h)
theorem zc2{a b x:Int}(h:b+0<=a+ -x):x<=a-b:=Int.le_sub_left_of_add_le<|by rw[QW,<-Ko] at h;exact Int.add_le_of_le_sub_right h
theorem si(S:Sz ps h w)(F:Good ps h w R C (.tab y))(D:p∈ps){pa pb:Nat->Bool}(N:pa p.1=Jc)(Y:pb p.2=Jd):
  ((∀q∈ps,q≠p->pa q.1=Jc->pb q.2=Jc)->(((Qc h).filter pa).map R).sum-(((Qc w).filter pb).map C).sum<=y p)/\((∀q∈ps,q≠p->pb q.2=Jc->pa q.1=Jc)->y p<=(((Qc h).filter pa).map R).sum-(((Qc w).filter pb).map C).sum):=by
 rw[rN S F pa pb];have k:=fP (f:=λq=>pa q.1) (x:=y) (p:=p) (δ:= -y p) S.nd D;have U:=fP (f:=λq=>pb q.2) (x:=y) (p:=p) (δ:= -y p) S.nd D;rw[N,Y8 rfl] at k;rw[Y,Y7 QF] at U;have u:upd y p (y p+ -y p) p=0:=(bO _ _ _).trans (Int.add_right_neg _);have n:∀q∈ps,0<=upd y p (y p+ -y p) q:=λq o=>by
  by_cases e:q=p
  ·rw[e,u];exact QV _
  ·rw[b9 _ _ e];exact F.1 q o
 refine⟨λc=> ?_,λc=> ?_⟩
 ·have z:=iQ n (f:=λq=>pa q.1) (g:=λq=>pb q.2) λq o j=>by
   by_cases e:q=p
   ·exact .inr<|e▸u
   ·exact .inl<|c q o e j
  rw[k,U] at z;exact zc1 z
 ·have z:=iQ n (f:=λq=>pb q.2) (g:=λq=>pa q.1) λq o j=>by
   by_cases e:q=p
   ·exact .inr<|e▸u
   ·exact .inl<|c q o e j
  rw[k,U] at z;exact zc2 z
theorem wq{q:Prop}[Decidable q](h:q):(!decide q)=Jd:=by rw[Y4 h];rfl
theorem wO{q:Prop}[Decidable q](h:¬q):(!decide q)=Jc:=by rw[Y5 h];rfl
theorem pZ(S:Sz ps h w)(F:Good ps h w R C (.tab x))(D:p∈ps)(E:¬ (glG hi p∈(cmG ps hi p x).1/\(hi=Jd->x p≠0)))(H:Good ps h w R C (.tab y)):leG hi (y p) (x p):=by
 obtain⟨b,c⟩:=yt (hi:=hi) S F D
 induction hi with
 |false=>
  show x p<=y p;by_cases i:x p>0
  ·have O:Nd.c p.2∉(cmG ps Jd p x).1:=λq=>E ⟨q,λo0 z=>by rw[z] at i;exact absurd i<|Int.lt_irrefl 0⟩;have T:=Y4 (p:=Nd.r p.1∈(cmG ps Jd p x).1) b;have e:=Y5 (p:=Nd.c p.2∈(cmG ps Jd p x).1) O;rw[rR S F D (pa:=λk=>decide<|Nd.r k∈(cmG ps Jd p x).1) (pb:=λk=>decide<|Nd.c k∈(cmG ps Jd p x).1) (λq o n=>(c q o n).2) T e];exact(si S H D T e).1 λq o n z=>Y4<|(c q o n).1 (Y6 z)
  ·exact QE (Kz.mp i)<|H.1 p D
 |true=>
  show y p<=x p;have O:Nd.r p.1∉(cmG ps Jc p x).1:=λq=>E ⟨q,λz=>tf z⟩;have T:=wO (q:=Nd.r p.1∈(cmG ps Jc p x).1) O;have e:=wq (q:=Nd.c p.2∈(cmG ps Jc p x).1) b;rw[rR S F D (pa:=λk=> !decide (Nd.r k∈(cmG ps Jc p x).1)) (pb:=λk=> !decide (Nd.c k∈(cmG ps Jc p x).1)) (λq o n=>(c q o n).2.imp (λz=>Ub (!·) z) id) T e];refine(si S H D T e).2 λq o n z=>wO λy=> ?_;rw[wq ((c q o n).1 y)] at z;exact ft z
theorem yZ(S:Sz ps h w){pa pb:Nat->Bool}(N:Good ps h w R C (.no pa pb))(F:Good ps h w R C (.tab y)):False:=by
 have z:=N.2;rw[rN S F pa pb] at z;exact absurd (Int.lt_of_sub_pos z)<|Kz.mpr (iQ F.1 λq o f=> .inl (N.1 q o f))
end
section
variable(c:List (List (Option Int)))(R C:Nat->Int)(w:Nat)
def someF(j:Nat):List Int:=bif !(cO c 0 j).isSome then(Qc (min (R 0) (C j)+1).toNat).map λ(k:Nat)=>(k:Int) else [0]
noncomputable def upF:Nat->List (List Int)
 |0=>[[]]
 |j+1=>(upF j).flatMap λo=>(someF c R C j).map λk=>o++[k]
noncomputable def undF(o:List Int):List Int:=(Qc w).map λj=>C j-o[j]?.getD 0
def okR(o:List Int):Bool:=decide (lmin (undF C w o)>=0)&&((Qc w).map λj=> !(cO c 1 j).isSome||decide ((undF C w o)[j]?.getD 0=0)).all id
def upsF:List (List Int):=(upF c R C w).filter λo=>decide<|o.sum=R 0
def rowsF:List (List Int):=(upsF c R C w).filter (okR c C w)
noncomputable def putF(o:List (Option Int))(l:List Int):List Int:=(Qc o.length).map λk=>(o[k]?.getD Jb).getD (l[k]?.getD 0)
def twoF(o:List Int):List (List Int):=[putF (rowAt c 0) o,putF (rowAt c 1) (undF C w o)]
noncomputable def valF(o:List Int)(q:Pl):Int:=if q.1=0 then o[q.2]?.getD 0 else C q.2-o[q.2]?.getD 0
end
section
variable{c:List (List (Option Int))}{R C:Nat->Int}{w:Nat}
theorem l0:∀ {j:Nat} {o:List Int},o∈upF c R C j->o.length=j/\∀i,i<j->o[i]?.getD 0∈someF c R C i
 |0,o,h=>by rw[Qk.mp h];exact⟨rfl,λi t=>absurd t (Kw i)⟩
 |j+1,o,h=>by
  obtain⟨r,n,h⟩:=List.mem_flatMap.mp h;obtain⟨k,q,rfl⟩:=Qi.mp h;obtain⟨N,p⟩:=l0 n;refine⟨by rw[QD,N];rfl,λi t=> ?_⟩;by_cases e:i=j
  ·subst e;rw[Wp (Kd N),N,Nat.sub_self];exact q
  ·have H:i<j:=Nat.lt_of_le_of_ne (Ym t) e;rw[KX (by rw[N];exact H)];exact p i H
theorem tq{f:Nat->Int}:∀ {j:Nat},(∀i,i<j->f i∈someF c R C i)->(Qc j).map f∈upF c R C j
 |0,h=> .head _
 |j+1,h=>by
  rw[<-d4];exact List.mem_flatMap.mpr ⟨_,tq λi t=>h i<|Wh t,Qi.mpr ⟨_,h j<|QG j,rfl⟩⟩
theorem nV(h:∀j,(someF c R C j).length<=m):∀j:Nat,(upF c R C j).length<=m^j
 |0=>Qz _
 |j+1=>by
  have i:=nV h j;have z:∀l:List (List Int),(l.flatMap λo=>(someF c R C j).map λk=>o++[k]).length<=l.length*m:=λl=>by
   induction l with
   |nil=>exact QN _
   |cons a l U=>
    rw[List.flatMap_cons,QD,Qd,KW,Nat.succ_mul,Nat.add_comm];exact Kg U<|h j
  rw[Nat.pow_succ];exact Qq (z _)<|Nat.mul_le_mul_right m i
theorem pQ(h:k∈someF c R C j):0<=k/\((cO c 0 j).isSome=Jc->k=0):=by
 unfold someF at h
 induction Z:(cO c 0 j).isSome with
 |true=>rw[Z] at h;rw[Qk.mp h];exact⟨QV _,λo0=>rfl⟩
 |false=>
  rw[Z] at h;obtain⟨i,o0,rfl⟩:=Qi.mp h;exact⟨QP i,λq=>ft q⟩
theorem vv(i:0<=k)(N:(cO c 0 j).isSome=Jc->k=0)(p:k<=R 0)(h:k<=C j):k∈someF c R C j:=by
 unfold someF
 induction Z:(cO c 0 j).isSome with
 |true=>rw[N Z];exact .head _
 |false=>
  refine Qi.mpr ⟨k.toNat,Qh.mpr ?_,Wz i⟩;exact(Int.toNat_lt_toNat<|Ye i (WQ<|Int.le_min.mpr ⟨p,h⟩)).mpr (WQ<|Int.le_min.mpr ⟨p,h⟩)
theorem oC(h:j<w):(undF C w o)[j]?.getD 0=C j-o[j]?.getD 0:=cV _ h 0
theorem pE(A:1<=w):okR c C w o=Jc↔∀j,j<w->0<=C j-o[j]?.getD 0/\((cO c 1 j).isSome=Jc->C j-o[j]?.getD 0=0):=by
 have n:undF C w o≠ []:=λq=>by
  have:=Ub Ys q;rw[undF,Qd,Qr] at this;rw[this] at A;exact absurd A<|by decide
 obtain⟨B,m⟩:=eO n;unfold okR;rw[Qg,Ua,Qy]
 constructor
 ·rintro ⟨N,p⟩ j H;refine⟨QE N<|m _ (Qi.mpr ⟨j,Qh.mpr H,rfl⟩),λZ=> ?_⟩;have z:=p _<|Qi.mpr ⟨j,Qh.mpr H,rfl⟩;rw[oC H,Z] at z;exact Y6 z
 ·intro h;refine⟨?_,λb v=> ?_⟩
  ·obtain⟨j,H,e⟩:=Qi.mp B;rw[<-e];exact(h j<|Qh.mp H).1
  ·obtain⟨j,H,rfl⟩:=Qi.mp v;have H:=Qh.mp H;rw[oC H];show(!(cO c 1 j).isSome||decide (C j-o[j]?.getD 0=0))=Jc
   induction Z:(cO c 1 j).isSome with
   |true=>exact Y4<|(h j H).2 Z
   |false=>rfl
end
section
variable{c:List (List (Option Int))}{r s:List Int}{w:Nat}
theorem lB(f:Nat->Int):((Qc 2).map f).sum=f 0+f 1:=by
 show f 0+(f 1+0)=_;rw[QW]
theorem zx{y:Pl->Int}(F:∀p∈psF c h w,0<=y p)(T:a<h)(v:b<w):0<=hx c y a b:=by
 unfold hx;by_cases q:(!(cO c a b).isSome)=Jc
 ·rw[Y8 q];exact F _<|Qj.mpr ⟨allF_mem.mpr ⟨T,v⟩,q⟩
 ·rw[Y7 q];exact QV _
theorem t7{f:Nat->Int}(h:∀i,i<n->0<=f i)(hi:i<n):f i<=((Qc n).map f).sum:=by
 induction n with
 |zero=>exact absurd hi<|Kw i
 |succ n ih=>
  rw[<-d4,Wf,QH,List.sum_nil,QW];have z:0<=((Qc n).map f).sum:=fZ λa ha=>h a<|Wh (Qh.mp ha);by_cases e:i=n
  ·subst e;exact Yc z
  ·exact QE (ih (λi hi=>h i<|Wh hi)<|Nat.lt_of_le_of_ne (Ym hi) e)<|KD (h n<|QG n)
theorem iA{f g:Nat->Int}(h:∀i,i<n->f i=g i):(Qc n).map f=(Qc n).map g:=Qo λi t=>h i<|Qh.mp t
theorem qW(V:VOK c r s 2 w)(h:o∈rowsF c (r1F c r) (r2F c s) w):Good (psF c 2 w) 2 w (r1F c r) (r2F c s) (.tab (valF (r2F c s) o)):=by
 obtain⟨N,Y⟩:=Qj.mp h;obtain⟨N,J⟩:=Qj.mp N;obtain⟨l,m⟩:=l0 N;have Y:=(pE V.R.w1).mp Y;have J:=Y6 J;have b:∀j,j<w->hx c (valF (r2F c s) o) 0 j=o[j]?.getD 0:=λj H=>by
  obtain⟨o0,k⟩:=pQ<|m j H;unfold hx
  induction Z:(cO c 0 j).isSome with
  |true=>rw[k Z];rfl
  |false=>rfl
 have T:∀j,j<w->hx c (valF (r2F c s) o) 1 j=r2F c s j-o[j]?.getD 0:=λj H=>by
  obtain⟨o0,k⟩:=Y j H;unfold hx
  induction Z:(cO c 1 j).isSome with
  |true=>rw[k Z];rfl
  |false=>rfl
 have t:((Qc w).map λj=>o[j]?.getD 0)=o:=by rw[<-l];exact fW o
 refine⟨λp D=> ?_,λi y=> ?_,λj H=> ?_⟩
 ·obtain⟨n,U,o0⟩:=eV D;unfold valF;by_cases q:p.1=0
  ·rw[Y8 q];exact(pQ<|m _ U).1
  ·rw[Y7 q];exact(Y _ U).1
 ·rw[jV y]
  rcases i with o0|o0|i
  ·rw[iA b,t,J]
  ·rw[iA T,<-lX,t,J];have e:=V.eq;rw[lB] at e;rw[<-e];rw[Kr];exact Wm _ _
  ·exact absurd y<|QT.mpr (Wq 2 i)
 ·rw[jW H,lB,b j H,T j H];rw[Kr];exact Int.sub_add_cancel _ _
theorem rp(V:VOK c r s 2 w){y:Pl->Int}(F:Good (psF c 2 w) 2 w (r1F c r) (r2F c s) (.tab y)):∃o∈rowsF c (r1F c r) (r2F c s) w,∀q∈psF c 2 w,valF (r2F c s) o q=y q:=by
 have n:∀a b,a<2->b<w->0<=hx c y a b:=λa b T g=>zx F.1 T g;have f:((Qc w).map λj=>hx c y 0 j).sum=r1F c r 0:=(jV<|by decide).symm.trans (F.2.1 0<|by decide);have d:∀j,j<w->r2F c s j=hx c y 0 j+hx c y 1 j:=λj H=>by rw[<-F.2.2 j H,jW H,lB]
 have at0:∀j,j<w->((Qc w).map λj=>hx c y 0 j)[j]?.getD 0=hx c y 0 j:=λj H=>cV _ H 0;have un:∀j,j<w->r2F c s j-((Qc w).map λj=>hx c y 0 j)[j]?.getD 0=hx c y 1 j:=λj H=>by
  rw[at0 j H,d j H];rw[Kr];exact Wm _ _
 refine⟨(Qc w).map λj=>hx c y 0 j,Qj.mpr ⟨Qj.mpr ⟨tq λi N=> ?_,Y4 f⟩,(pE V.R.w1).mpr λj H=> ?_⟩,λq m=> ?_⟩
 ·refine vv (n 0 i (by decide) N) (λZ=> ?_) ?_ ?_
  ·unfold hx;rw[Z];rfl
  ·rw[<-f];exact t7 (λj H=>n 0 j (by decide) H) N
  ·rw[d i N];exact KD<|n 1 i (by decide) N
 ·rw[un j H];refine⟨n 1 j (by decide) H,λZ=> ?_⟩;unfold hx;rw[Z];rfl
 ·obtain⟨v,Q,A⟩:=eV m;have t:∀a,a=q.1->hx c y a q.2=y q:=λa T=>by
   unfold hx;rw[T,A];rfl
  unfold valF;by_cases z:q.1=0
  ·rw[Y8 z,at0 _ Q];exact t 0 z.symm
  ·rw[Y7 z,un _ Q];refine t 1 ?_
   rcases h:q.1 with o0|o0|i
   ·exact absurd h z
   ·rfl
   ·rw[h] at v;exact absurd v<|QT.mpr (Wq 2 i)
theorem sb(V:VOK c r s 2 w){q:Pl}(h:q∈psF c 2 w):cell (twoF c (r2F c s) w o) q.1 q.2=valF (r2F c s) o q:=by
 obtain⟨N,Z,Q⟩:=eV h;obtain⟨a,b⟩:=q;have p:∀ (i:Nat) (l:List Int),i<2->cO c i b=Jb->(putF (rowAt c i) l)[b]?.getD 0=l[b]?.getD 0:=λi l t J=>by
  unfold putF;rw[(V.R.at_ t).2];rw[cV _ Z];show(cO c i b).getD _=_;rw[J];rfl
 unfold valF
 rcases a with o0|o0|a
 ·exact p 0 _ (by decide) Q
 ·exact(p 1 _ (by decide) Q).trans (oC Z)
 ·exact absurd N<|QT.mpr (Wq 2 a)
end
noncomputable def tpF(c:List (List (Option Int)))(w:Nat):List (List (Option Int)):=(Qc w).map λj=>c.map λo=>o[j]?.getD Jb
noncomputable def sw(p:Pl):Pl:=(p.2,p.1)
section
variable{c:List (List (Option Int))}{r s:List Int}{h w:Nat}{y:Pl->Int}
theorem v8(R:Rect c h w):Rect (tpF c w) w h:=by
 refine⟨by rw[tpF,Qd,Qr],λo n=> ?_,R.w1,R.w8,R.h1,R.h8⟩;obtain⟨j,o0,rfl⟩:=Qi.mp n;rw[Qd];exact R.len
theorem uh(H:j<w):rowAt (tpF c w) j=c.map λo=>o[j]?.getD Jb:=eZ _ H
theorem qu(R:Rect c h w)(hi:i<h)(H:j<w):cO (tpF c w) j i=cO c i j:=by
 unfold cO;rw[uh H,Qu,(R.at_ hi).1];rfl
theorem yu(R:Rect c h w)(hi:i<h):rowAt c i=(Qc w).map (cO c i):=by
 have l:=(R.at_ hi).2;refine WT (by rw[l,Qd,Qr]) λj N p=> ?_;rw[WU,Wa,cO,Qf N];rfl
theorem qq(q:k<w):r1F (tpF c w) s k=r2F c s k:=by
 unfold r1F r2F;rw[uh q,WI];rfl
theorem qy(R:Rect c h w)(q:k<h):r2F (tpF c w) r k=r1F c r k:=by
 unfold r1F r2F;rw[yu R q,tpF,WI,WI];have e:∀j,(c.map λo=>o[j]?.getD Jb)[k]?.getD Jb=cO c k j:=λj=>by
  rw[Qu,(R.at_ q).1];rfl
 exact Ub (λf=>r[k]?.getD 0-((Qc w).filterMap f).sum)<|funext e
theorem x9(V:VOK c r s h w):VOK (tpF c w) s r w h where
 R:=v8 V.R
 hr:=V.hs
 hs:=V.hr
 nc:=λrow hr i hi=>by
  obtain⟨j,o0,rfl⟩:=Qi.mp hr;obtain⟨row',h1,h2⟩:=Qi.mp hi;refine V.nc row' h1 i ?_;by_cases q:j<row'.length
  ·rw[Qf q] at h2;exact h2▸KN q
  ·rw[KK (QT.mp q)] at h2;exact ns h2
 nr:=V.ns
 ns:=V.nr
 n1:=λk hk=>by rw[qq hk];exact V.n2 k hk
 n2:=λk hk=>by rw[qy V.R hk];exact V.n1 k hk
 eq:=by
  rw[Qo λk hk=>qq<|Qh.mp hk,Qo λk hk=>qy V.R (Qh.mp hk)];exact V.eq.symm
theorem ql(R:Rect c h w):q∈psF (tpF c w) w h↔sw q∈psF c h w:=by
 constructor
 ·intro o;obtain⟨N,Z,Q⟩:=eV o;rw[qu R Z N] at Q;exact Qj.mpr ⟨allF_mem.mpr ⟨Z,N⟩,by show(!(cO c q.2 q.1).isSome)=Jc;rw[Q];rfl⟩
 ·intro o;obtain⟨N,Z,Q⟩:=eV o;exact Qj.mpr ⟨allF_mem.mpr ⟨Z,N⟩,by show(!(cO (tpF c w) q.1 q.2).isSome)=Jc;rw[qu R (show q.2<h from N) (show q.1<w from Z),show cO c q.2 q.1=_ from Q];rfl⟩
theorem wK(R:Rect c h w)(hi:i<h)(H:j<w):hx (tpF c w) y j i=hx c (λq=>y (sw q)) i j:=by
 unfold hx;rw[qu R hi H];rfl
theorem pg(R:Rect c h w):Good (psF (tpF c w) w h) w h (r1F (tpF c w) s) (r2F (tpF c w) r) (.tab y)↔Good (psF c h w) h w (r1F c r) (r2F c s) (.tab λq=>y (sw q)):=by
 have b:∀i,i<w->rowS (psF (tpF c w) w h) y i=colS (psF c h w) (λq=>y<|sw q) i:=λi t=>by
  rw[jV t,jW t];exact Ub Ww<|Qo λa T=>wK R (Qh.mp T) t
 have e:∀i,i<h->colS (psF (tpF c w) w h) y i=rowS (psF c h w) (λq=>y<|sw q) i:=λi t=>by
  rw[jV t,jW t];exact Ub Ww<|Qo λa T=>wK R t<|Qh.mp T
 constructor
 ·rintro ⟨N,Y,J⟩;refine⟨λp D=>N _<|(ql R).mpr D,λi t=> ?_,λi t=> ?_⟩
  ·rw[<-e i t,J i t,qy R t]
  ·rw[<-b i t,Y i t,qq t]
 ·rintro ⟨N,Y,J⟩;refine⟨λp D=>N (sw p)<|(ql R).mp D,λi t=> ?_,λi t=> ?_⟩
  ·rw[b i t,J i t,qq t]
  ·rw[e i t,Y i t,qy R t]
end
structure Fam(c:List (List (Option Int)))(r s:List Int)(h w:Nat)(rows:List (List Int))(val:List Int->Pl->Int):Prop where
 V:VOK c r s h w
 good:∀row∈rows,Good (psF c h w) h w (r1F c r) (r2F c s)<|.tab (val row)
 all:∀y,Good (psF c h w) h w (r1F c r) (r2F c s) (.tab y)->∃row∈rows,∀q∈psF c h w,val row q=y q
theorem fam0(V:VOK c r s 2 w):Fam c r s 2 w (rowsF c (r1F c r) (r2F c s) w) (valF (r2F c s)):=⟨V,λo0 h=>qW V h,λo0 F=>rp V F⟩
theorem Fam.turn{val:List Int->Pl->Int}(F:Fam c r s h w rows val):Fam (tpF c w) s r w h rows λo q=>val o (sw q):=
 ⟨x9 F.V,λo h=>(pg F.V.R).mpr (F.good o h),λy G=>by
  obtain⟨o,N,p⟩:=F.all _ ((pg F.V.R).mp G);exact⟨o,N,λq z=>p _ ((ql F.V.R).mp z)⟩⟩
section
variable{c:List (List (Option Int))}{r s:List Int}{h w:Nat}{rows:List (List Int)}{val:List Int->Pl->Int}{x:Pl->Int}
theorem Fam.no(F:Fam c r s h w rows val)(e:rows=[]):∃pa pb,outV c r s h w= .no pa pb:=by
 have G:Good (psF c h w) h w (r1F c r) (r2F c s) (outV c r s h w):=gN (fw F.V.R) _ _ _ _ (fill0 F.V)<|QG _
 induction O:outV c r s h w with
 |no pa pb=>exact⟨pa,pb,rfl⟩
 |tab x=>
  rw[O] at G;obtain⟨o,N,o0⟩:=F.all x G;rw[e] at N;exact bN N
theorem Fam.yes(F:Fam c r s h w rows val)(e:rows≠ []):∃x,outV c r s h w= .tab x:=by
 have G:Good (psF c h w) h w (r1F c r) (r2F c s) (outV c r s h w):=gN (fw F.V.R) _ _ _ _ (fill0 F.V)<|QG _
 induction O:outV c r s h w with
 |no a p=>
  rw[O] at G
  rcases rows with o0|⟨o,l⟩
  ·exact absurd rfl e
  ·exact(yZ (fw F.V.R) G<|F.good o (.head _)).elim
 |tab x=>exact⟨x,rfl⟩
theorem Fam.ends(F:Fam c r s h w rows val)(hx:outV c r s h w= .tab x)(z:q∈psF c h w):endF (psF c h w) (r1F c r) Jd q x q=lmin (rows.map λo=>val o q)/\endF (psF c h w) (r1F c r) Jc q x q=lmax (rows.map λo=>val o q):=by
 have S:=fw F.V.R;have i:Good (psF c h w) h w (r1F c r) (r2F c s) (outV c r s h w):=gN S _ _ _ _ (fill0 F.V)<|QG _;rw[hx] at i;have E:=l7 (hi:=Jd) S z (msG (r1F c r) Jd q x+1) x i<|QG _;have H:=l7 (hi:=Jc) S z (msG (r1F c r) Jc q x+1) x i<|QG _;have mem:∀y,Good (psF c h w) h w (r1F c r) (r2F c s) (.tab y)->y q∈rows.map λo=>val o q:=λy G=>by
  obtain⟨o,N,p⟩:=F.all y G;exact Qi.mpr ⟨o,N,p q z⟩
 have m:=mem _ E.1;have M:=mem _ H.1;have n:(rows.map λo=>val o q)≠ []:=List.ne_nil_of_mem m;obtain⟨U,l⟩:=eO n;obtain⟨v,g⟩:=lq n;refine⟨Wd ?_<|l _ m,Wd (g _ M) ?_⟩
 ·obtain⟨o,N,p⟩:=Qi.mp U;rw[<-p];exact pZ (hi:=Jd) S E.1 z E.2<|F.good o N
 ·obtain⟨o,N,p⟩:=Qi.mp v;rw[<-p];exact pZ (hi:=Jc) S H.1 z H.2<|F.good o N
end
theorem jv{q:Type}{tst:DRho->(Bool->Prop)->Prop}{el:DRho->DQ->Prop}{K:List D->Tag->Prop}(g f:q->D)(p:q->Bool)(h:∀a,dOR (λP=>(∀T:Bool->Prop,T (p a)->tst P T)/\∀K:DQ,(∀t,K (f a) t)->el P K) (bp tg (g a) L)):
  ∀ (l:List q) (c:List D) (t:Tag),(∀t,K (c++(l.filter p).map f) t)->dcomp tg L s tst el (l.map g) c t K
 |[]=>λc t k=>by rw[WK,WD,QI] at k;exact k t
 |a::l=>λc t k=>by
  obtain⟨P,e,w,j⟩:=f9<|h a;show dOR _ (bp tg (g a) L);rw[e];refine w _ ?_
  induction U:p a with
  |true=>
   rw[QX U] at k;exact j _ λu=>jv g f p h l (c++[f a]) _<|by rw[Ks];exact k
  |false=>
   rw[QY (by rw[U];exact QF)] at k;exact jv g f p h l c t k
theorem vP(o:Option Int)(v:Int):dsub (.list [dO o,.int v]) (.int (if(!o.isSome)=Jc then 1 else 0))=Ja (.int (o.getD v)):=by
 rcases o with⟨⟩<;>rfl
theorem zp(o:Option Int)(t:Tag):tg0 (dO o) t=Jb:=by rcases o with⟨⟩<;>rfl
inductive TurnK(c:List (List (Option Int)))(r s:List Int)(h w:Nat):Bool->List (List (Option Int))->List Int->List Int->Nat->Nat->Prop
 |no:TurnK c r s h w Jd c r s h w
 |yes:TurnK c r s h w Jc (tpF c w) s r w h
section
variable{C:Cx}{mg mb:Jq->Option Jf}{n:Nat}{Q:D->Bool->Prop}{X:DX}
theorem wz(e:Env1 C G1 mg mb){c:List (Option Int)}{l:List Int}(T:l.length=c.length)(y:c.length<=8)(k:Q (dI (putF c l)) Jc):aR (aO C (n+1)) "_law_put" [(dR c,b),(dI l,b')] Q X:=by
 refine e.fn gp (by simp[tab]) rfl λM u P PX g=> ?_;dsimp only[gp];dsimp only[br,ci,bD];refine b0 ?_;refine bY rfl ?_
 (dsimp only[fsts,aC,aH,aW,aE,aI,aU,bj,bU,bk,eA,eP,bV,aD,aG,Qa,aB,aA,aL,cg,cD];refine⟨rfl,?_⟩)
 rw[Qd];refine⟨rg y,bP (λi=> .int ((c[i]?.getD Jb).getD (l[i]?.getD 0))) (λi h K k=> ?_) ?_⟩
 ·dsimp only[bp,cr,b5,aM,Qa,aK,aB,aA,bK];dsimp only[elD];dsimp only[aP,bj,jb,aC,aE,bV,dm,bM,aD,aJ,Qa,aG,aB,aA,aL,bv,fsts,dnew,aH,aY,aW,aI,aX,aU,bt];refine aS (hA h) ?_;refine aS (dD<|by rw[T];exact h) ?_
  (dsimp only[bB,bk];refine⟨by decide,rfl,?_⟩)
  refine aS (hA h) ?_;refine⟨(cJ _).1,?_⟩;rw[(cJ _).2];refine aS (vP _ _) ?_;exact k
 ·dsimp only[aF];rw[dI,putF,Qx] at k;exact g.qr k
theorem iN(e:Env1 C G1 mg mb)(R:Rect c h w){D:List (List (Option Int))}(T:TurnK c r s h w a D y s' A m)(k:∀f,Q (.tup [dC D,dI y,dI s']) f):
  aR (aO C<|n+1) "_law_turned" [(.tup [dC c,dI r,dI s],b),(.bool a,b')] Q X:=by
 refine e.fn ei (by simp[tab]) rfl λl u P PX g=> ?_;dsimp only[ei];dsimp only[br,ci,bD];refine dJ ?_
 induction T with
 |no=>
  dsimp only[cA,bM,aD,aG,Qa,aJ,aB,aA,aL,mW];refine b0 ?_;dsimp only[aD,aG,Qa,aJ,aB,aA,aL,bI,tgl,bw,bC,bz,bA,aT];exact g.qr<|k _
 |yes=>
  dsimp only[cA,bM,aD,aG,Qa,aJ,aB,aA,aL,fN];refine gF ?_;refine aZ ?_;refine bY rfl ?_
  (dsimp only[fsts,aC,aH,aW,aE,aI,aU,bj,bU,bk,eA,eP,bV,aP,aN,aD,aG,Qa,aJ,aB,aA,aL,cz,ce];refine⟨rfl,?_⟩)
  refine aS (fR R) ?_;dsimp only[cg,cD];rw[Qd,(R.at_ R.h1).2];refine⟨rg R.w8,bP (λj=>dR<|c.map λo=>o[j]?.getD Jb) (λj H K k=> ?_) ?_⟩
  ·dsimp only[bp,cr,b5,aM,Qa,aK,aB,aA,bK];dsimp only[elD];refine bY rfl ?_;dsimp only[fsts,aC,aH,aW,aE,aI,aU,c7,aP,aN,aD,aJ,Qa,aG,aB,aA,aL,bI,tgl,bw,bC,bz,bA,cz,ce,bt,bH,cU];refine bS dR (λo=>dO<|o[j]?.getD Jb) (λo z K k=> ?_) ?_
   ·dsimp only[bp,cr,b5,aM,Qa,aK,aB,aA,bK];dsimp only[elD];dsimp only[aP,aD,aJ,Qa,aG,aB,aA,aL,bt];refine aS (hA<|by rw[R.row o z];exact H) ?_;rw[zp];exact k
   ·rw[dR,Qx] at k;exact k
  dsimp only[bq,aF,aK,Qa,aM,aA,aB];refine cK ?_
  (dsimp only[dS,c9,aY,dZ,aX,An,bj,iS,aC,aE,bV,aP,aN,aD,b8,aG,Qa,aB,aA,aL,bI,tgl,bw,bC,bz,bA,jo,ce,bt,zn,jl,aK];refine⟨rfl,rfl,?_⟩)
  rw[cH _ iR,cH _ iR]
  (dsimp only[aA];refine⟨rfl,rfl,rfl,by decide,?_⟩)
  rw[tpF,dC,Qx] at k;exact g.qr<|k _
end
theorem nS{R C:Nat->Int}(h:R 0<=12)(j:Nat):(someF c R C j).length<=13:=by
 unfold someF
 induction (!(cO c 0 j).isSome) with
 |false=>exact Kt rfl
 |true=>
  show((Qc (min (R 0) (C j)+1).toNat).map λ(k:Nat)=>(k:Int)).length<=13;rw[Qd,Qr];exact YD.mpr<|Yw (QE (Int.min_le_left _ _) h) 1
theorem rU{L u:Type}(F:L->List u)(l m:List L):(l.flatMap F).length<=((l++m).flatMap F).length:=by
 rw[WZ,QD];exact KP _ _
inductive UpI(c:List (List (Option Int)))(r s:List Int)(w:Nat)(b:Bool)(j:Nat)(Δ:DRho):Prop
 |mk (f1:Bool) (u1 u2 u3 u4:Option (D×Bool)) (e:Δ=(Nb "_law_view_here" b (.tup [dC c,dI r,dI s])<|Nb "_law_left" Jc (dI ((Qc 2).map (r1F c r)))<|Nb "_law_below" Jc (dI ((Qc w).map (r2F c s)))<|Nb "_law_found" f1 (dT (upF c (r1F c r) (r2F c s) j))<|No "_law_column" u1<|No "_law_some" u2<|No "_law_rows" u3<|No "_law_row" u4<|[])):UpI c r s w b j Δ
section
variable{C:Cx}{mg mb:Jq->Option Jf}{n:Nat}{Q:D->Bool->Prop}{X:DX}
theorem wj(e:Env1 C G1 mg mb)(V:VOK c r s 2 w)(w3:w<=3)(U:r1F c r 0<=12)(k:∀f,Q (dT (upsF c (r1F c r) (r2F c s) w)) f):aR (aO C (n+3)) "_law_upper" [(.tup [dC c,dI r,dI s],b)] Q X:=by
 refine e.fn eE (by simp[tab]) rfl λcl q PQ PX G=> ?_;dsimp only[eE];dsimp only[br,ci,bD];have M:=nS (c:=c) (C:=r2F c s) U;have ul:∀j,j<=3->(upF c (r1F c r) (r2F c s) j).length<=2197:=λj h=>Qq (nV M j)<|Nat.pow_le_pow_right (by decide) h;have P:dsub (dI<|(Qc 2).map (r1F c r)) (.int 0)=Ja (.int<|r1F c r 0):=rfl;refine d3 rfl ?_
 (dsimp only[aQ,flags,aC,aH,aW,aE,aI,aU,aD,aG,Qa,aJ,aB,aA,aL,bI,tgl,bw,bC,bz,bA,aT,bH,bZ,bE];refine⟨rfl,?_⟩)
 refine G.hc<|ik e V.R V.hr V.hs ?_;dsimp only[aA,bI,tgl,bw,bC,bz,bA,aB,aF,bq,jH,aK,Qa,aM,bK];refine aZ ?_
 (dsimp only[bv,fsts,dnew,aC,aH,aY,aW,aE,aI,aX,aU,bk,bq,aF,aK,Qa,aM,aB,aA];refine⟨by decide,by decide,?_⟩)
 refine dK rfl ?_
 (dsimp only[fsts,aC,aH,aW,aE,aI,aU,bj,bU,bk,bq,eA,eP,bV,aD,aG,Qa,aJ,aB,aA,aL,cg,cD];refine⟨rfl,?_⟩)
 rw[Qd,Qd,Qr];refine⟨rg V.R.w8,dp (UpI c r s w b) ⟨_,_,_,_,_,rfl⟩ ?_ ?_⟩
 ·rintro j L h ⟨W,Y,Z,E,I,rfl⟩ K m;have O:j+1<=3:=Qq h w3;have B:=ul (j+1) O;have F:∀R,dwss G1 cl q [.assign (.name "_law_rows") (.list []),.for_ (.name "_law_row") .val [.loc "_law_found"] [.assign (.name "_law_rows") (.bin .add (.loc "_law_rows")<|.comp (.bin .add (.loc "_law_row")<|.list [.loc "_law_count"]) (.name "_law_count") .val [.loc "_law_some"])],.assign (.name "_law_found") (.loc "_law_rows")] (Nb "_law_view_here" b (.tup [dC c,dI r,dI s])<|Nb "_law_left" Jc (dI<|(Qc 2).map (r1F c r))<|Nb "_law_below" Jc (dI<|(Qc w).map (r2F c s))<|Nb "_law_found" W (dT<|upF c (r1F c r) (r2F c s) j)<|Nb "_law_column" Jc (.int j)<|Nb "_law_some" R (dI<|someF c (r1F c r) (r2F c s) j)<|No "_law_rows" E<|No "_law_row" I<|[]) K λo0 o0 o0=>False:=λR=>by
   have m:=λW Y Z E I=>m _ ⟨W,Y,Z,E,I,rfl⟩;rw[show upF c (r1F c r) (r2F c s) (j+1)=(upF c (r1F c r) (r2F c s) j).flatMap λo=>(someF c (r1F c r) (r2F c s) j).map λk=>o++[k] from rfl] at B m;have l:∀a∈upF c (r1F c r) (r2F c s) j,a.length<=3:=λa H=>by rw[(l0 H).1];exact Kc O
   generalize someF c (r1F c r) (r2F c s) j=d at B m;generalize upF c (r1F c r) (r2F c s) j=p at B m l;refine aZ ?_
   (dsimp only[bv,fsts,dnew,aE,aI,aX,aU,bq,aF,aK,Qa,aM,aB,aA];refine⟨by decide,?_⟩)
   refine dK rfl ?_;dsimp only[fsts,aC,aH,aW,aE,aI,aU,c7,aD,aG,Qa,aJ,aB,aA,aL,bt,bH,i4,iG,iO,iC,gG,bw,bC,bz,bA,iY,eY,eW,jt,iP,iJ,cU];refine dl dI (λi L=>∃g f u,L=(Nb "_law_view_here" b (.tup [dC c,dI r,dI s])<|Nb "_law_left" Jc (dI<|(Qc 2).map (r1F c r))<|Nb "_law_below" Jc (dI<|(Qc w).map (r2F c s))<|Nb "_law_found" Jd (dT p)<|Nb "_law_column" Jc (.int j)<|Nb "_law_some" R (dI d)<|Nb "_law_rows" f (dT<|(p.take i).flatMap g)<|No "_law_row" u<|[])/\g=λo=>d.map λk=>o++[k]) _ _ ⟨_,_,_,rfl,rfl⟩ ?_ ?_
   ·rintro i a L H ⟨g,f,u,rfl,S⟩ K' A;have x:[a].flatMap g=d.map λk=>a++[k]:=by rw[S,List.flatMap_cons,List.flatMap_nil,QI]
    have ll:(((p.take i).flatMap g)++d.map λk=>a++[k]).length<=2197:=by
     have z:=rU g (p.take<|i+1)<|p.drop (i+1);rw[List.take_append_drop,c8 H,WZ,x] at z;rw[<-S] at B;exact Qq z B
    have e1:(((p.take i).flatMap g).map dI++d.map λk=>dI<|a++[k])=((p.take<|i+1).flatMap g).map dI:=by
     rw[c8 H,WZ,x,QC,Qx];rfl
    have al:=l a<|QJ H;dsimp only[bC,b5,aK,Qa,aM,aA,aB,bK];refine aZ ?_;dsimp only[bl,aD,aG,Qa,aB,aA,aL,bt];refine bY rfl ?_;dsimp only[fsts,fy,tgl,dnew,aC,aH,aW,aE,aI,aU,c7,aD,aG,Qa,aB,aA,aL,bt,bH,cU];refine bS D.int (λk=>dI<|a++[k]) (λk hk K v=> ?_) ?_
    ·dsimp only[bp,cr,b5,aM,Qa,aK,aB,aA,bK];dsimp only[elD]
     (dsimp only[bl,bv,fsts,dnew,aC,aH,aY,aW,aE,aI,aX,aU,aD,aJ,Qa,aG,aB,aA,aL,bB,bk,bt,fy,bH,tgl];refine⟨by decide,?_⟩)
     rw[iy D.int,cH _ iR];refine⟨dX<|by rw[Qd,QD];exact zb2 (Kf al 1) rfl,?_⟩;exact v
    dsimp only[bH];rw[e1];refine⟨Qq (by rw[Qd,c8 H,WZ,x];exact ll)<|Kt (rfl:Nat.ble 2197 lim=Jc),?_⟩
    induction D.atoms (((p.take<|i+1).flatMap g).map dI) with
    |true=>dsimp only[aA,bq,aF,aK,Qa,aB];exact A _ ⟨g,_,Ja (dI a,Jd),rfl,S⟩
    |false=>dsimp only[aB,i4,iG,Qa,iO,iC,gG,bw,bC,bz,bA,eY,eW,iY,aA,iP,iJ,aT,aK];exact A _ ⟨g,_,Ja (dI a,Jd),rfl,S⟩
   ·rintro L ⟨g,f,u,rfl,S⟩;rw[Kl,S];refine ip ?_;refine aZ ?_;dsimp only[aD,aG,Qa,aJ,aB,aA,aL,bt,i4,iG,iO,iC,gG,bw,bC,bz,bA,eY,eW,iY,jt,iP,iJ,aT,aK,aM];exact m _ (Ja (.int j,Jc)) (Ja (dI d,R)) _ u
  dsimp only[b5,aK,Qa,aM,aB,aA,bK];refine aZ ?_
  (dsimp only[bv,fsts,dnew,aC,aH,aY,aW,aE,aI,aX,aU,aN,bk,bq,aF,aK,Qa,aM,aB,aA];refine⟨by decide,?_⟩)
  refine dJ ?_;dsimp only[dm,bM,aP,aD,aG,Qa,aJ,aB,aA,aL,aN,cz,ce];refine aS (fR V.R) ?_;refine aS (mj V.R (by decide) h) ?_;refine⟨(cJ _).1,?_⟩;rw[(cJ _).2];refine lN (λN=> ?_) λN=> ?_
  ·have J:=V.n1 0 (by decide);have y:=V.n2 j h;refine aZ ?_
   (dsimp only[xQ,bq,aF,aK,Qa,aM,aB,aA,bl,aN,bj,vM,cm,o8,aC,aE,Ax,aP,aD,aG,aJ,aL];refine⟨rfl,rfl,?_⟩)
   refine aS P ?_;dsimp only[o8];refine aS (d5 h) ?_;dsimp only[o8];refine⟨⟨Int.le_add_one<|Int.le_min.mpr ⟨J,y⟩,QE (Yw (QE (Int.min_le_left _ _) U) 1)<|by decide⟩,?_⟩;refine gF ?_;have z:=F Jc;rw[show dI (someF c (r1F c r) (r2F c s) j)= .list ((Qc (min (r1F c r 0) (r2F c s j)+1).toNat).map λ(i:Nat)=> .int i) from by unfold someF;rw[N];show D.list ((KQ _ _).map _)=_;rw[Qx];rfl] at z;exact z
  ·refine gF ?_;have z:=F Jc;rw[show dI (someF c (r1F c r) (r2F c s) j)= .list [.int 0] from by unfold someF;rw[N];rfl] at z;exact z
 ·rintro L ⟨W,Y,Z,E,I,rfl⟩;refine ip ?_;refine b0 ?_;refine cG rfl ?_;dsimp only[fsts,aC,aH,aW,aE,aI,aU,c7,aD,aG,Qa,aJ,aB,aA,aL,bt,bH,cU];refine jv dI dI (λo=>decide<|o.sum=r1F c r 0) (λo=> ?_) _ _ _ λt=> ?_
  ·dsimp only[bp,cr,b5,aM,Qa,aK,aA,aB,bK];refine⟨λT hT=> ?_,λK k=> ?_⟩
   ·dsimp only[tstD]
    (dsimp only[bo,bM,dy,deq,aP,aN,aD,aJ,Qa,aG,aB,aA,aL,bj,f5,aC,aE,bV,de];refine⟨rfl,?_⟩)
    refine eD (cp _) ?_;refine aS P ?_
    (dsimp only[cj];refine⟨⟨rfl,rfl⟩,?_⟩)
    exact hT
   ·dsimp only[elD];dsimp only[aD,aJ,Qa,aG,aA,aB,aL,bt];exact k _
  ·rw[Ky];exact G.qr<|k _
theorem sM(e:Env1 C G1 mg mb)(V:VOK c r s 2 w)(B:w<=3)(U:r1F c r 0<=12)(k:Q (.list ((rowsF c (r1F c r) (r2F c s) w).map λo=>dT (twoF c (r2F c s) w o))) Jc):aR (aO C (n+4)) "_law_tables" [(.tup [dC c,dI r,dI s],b)] Q X:=by
 refine e.fn eg (by simp[tab]) rfl λM W P PX g=> ?_;dsimp only[eg];dsimp only[br,ci,bD];have G:(upsF c (r1F c r) (r2F c s) w).length<=2197:=Qq (Ku _ _)<|Qq (nV (nS (c:=c) (C:=r2F c s) U) w) (Nat.pow_le_pow_right (by decide) B);refine d3 rfl ?_
 (dsimp only[aQ,flags,aC,aH,aW,aE,aI,aU,aD,aG,Qa,aJ,aB,aA,aL,bI,tgl,bw,bC,bz,bA,aT,bH,bZ,bE];refine⟨rfl,?_⟩)
 refine g.hc<|ik e V.R V.hr V.hs ?_;dsimp only[aA,bI,tgl,bw,bC,bz,bA,aB,aF,bq,jH,aK,Qa,aM,bK];refine aZ ?_
 (dsimp only[bv,fsts,dnew,aE,aI,aX,aU,bq,aF,aK,Qa,aM,aB,aA];refine⟨by decide,?_⟩)
 refine dK rfl ?_
 (dsimp only[fsts,aC,aH,aW,aE,aI,aU,c7,aQ,flags,aD,aG,Qa,aJ,aB,aA,aL,bI,tgl,bw,bC,bz,bA,aT,bH,bZ,bE];refine⟨rfl,?_⟩)
 refine g.hc (wj e V B U λf=> ?_);have R:∀a∈upsF c (r1F c r) (r2F c s) w,a.length=w:=λa T=>(l0 (Qj.mp T).1).1;unfold rowsF at k;generalize upsF c (r1F c r) (r2F c s) w=u at G R k;have Z:=V.R.w1;have O:∀b:Bool,fA (.name "_law_row") (λL K=>dwss G1 M W [.assign (.name "_law_under") (.comp (.bin .sub (.sub (.loc "_law_below")<|.loc "_law_column")<|.sub (.loc "_law_row") (.loc "_law_column")) (.name "_law_column") .range [.bi .len [.loc "_law_row"]]),.assign (.name "_law_free")<|.comp (.or_ (.isNone<|.sub (.sub (.sub (.loc "_law_view_here")<|.int 0)<|.int 1) (.loc "_law_column"))<|.cmp .eq (.sub (.loc "_law_under")<|.loc "_law_column") (.int 0)) (.name "_law_column") .range [.bi .len [.loc "_law_row"]],.if_ (.and_ (.cmp .ge (.bi .min [.loc "_law_under"])<|.int 0)<|.bi .all [.loc "_law_free"]) [.expr (.meth (.loc "_law_found") .append [.list [.call "_law_put" [.sub (.sub (.loc "_law_view_here")<|.int 0) (.int 0),.loc "_law_row"],.call "_law_put" [.sub (.sub (.loc "_law_view_here")<|.int 0) (.int 1),.loc "_law_under"]]])] []] L K λo0 o0 o0=>False) (donFl (λx=>dwss G1 M W [.ret (.loc "_law_found")] x P PX) P) (u.map dI) (Nb "_law_view_here" b (.tup [dC c,dI r,dI s])<|Nb "_law_left" Jc (dI<|(Qc 2).map (r1F c r))<|Nb "_law_below" Jc (dI<|(Qc w).map (r2F c s))<|Nb "_law_found" Jc (.list [])<|No "_law_row" Jb<|No "_law_under" Jb<|No "_law_free" Jb<|[]):=λb=>by
  refine dl dI (λi L=>∃Y A E,L=(Nb "_law_view_here" b (.tup [dC c,dI r,dI s])<|Nb "_law_left" Jc (dI<|(Qc 2).map (r1F c r))<|Nb "_law_below" Jc (dI<|(Qc w).map (r2F c s))<|Nb "_law_found" Jc (.list<|((u.take i).filter (okR c (r2F c s) w)).map λo=>dT<|twoF c (r2F c s) w o)<|No "_law_row" Y<|No "_law_under" A<|No "_law_free" E<|[])) _ _ ⟨_,_,_,rfl⟩ ?_ ?_
  ·rintro i a L T ⟨Y,A,E,rfl⟩ K m;have l:=R a<|QJ T;have m:=λv=>m _ ⟨Ja (dI a,Jd),Ja (dI<|undF (r2F c s) w a,Jc),Ja (v,Jc),rfl⟩;rw[c8 T,Yg,QC] at m;have fl:((u.take i).filter (okR c (r2F c s) w)).length<=2197:=Qq (Ku _ _)<|Qq (by rw[WV];exact Wy _ _) G;generalize (u.take i).filter (okR c (r2F c s) w)=d at m fl;have h:(undF (r2F c s) w a).length=w:=by rw[undF,Qd,Qr]
   dsimp only[bC,b5,aK,Qa,aM,aB,aA,bK];refine aZ ?_;refine bY rfl ?_
   (dsimp only[fsts,aC,aH,aW,aE,aI,aU,bj,bU,bk,eA,eP,bV,aD,aG,Qa,aJ,aB,aA,aL,cg,cD];refine⟨rfl,?_⟩)
   rw[Qd,l];refine⟨rg V.R.w8,bP (λj=> .int (r2F c s j-a[j]?.getD 0)) (λj H K k=> ?_) ?_⟩
   ·dsimp only[bp,cr,b5,aM,Qa,aK,aB,aA,bK];dsimp only[elD];dsimp only[bl,aP,aD,aJ,Qa,aG,aB,aA,aL,bt];refine aS (d5 H) ?_;dsimp only[bB];refine aS (dD<|by rw[l];exact H) ?_;dsimp only[cT];exact k
   rw[show(Qc w).map (λ(j:Nat)=>D.int<|r2F c s j-a[j]?.getD 0)=(undF (r2F c s) w a).map D.int from by rw[undF,Qx];rfl];dsimp only[bq,aF,aK,Qa,aM,aB,aA];refine aZ ?_;refine bY rfl ?_
   (dsimp only[fsts,aC,aH,aW,aE,aI,aU,bj,bU,bk,eA,eP,bV,aD,aG,Qa,aJ,aB,aA,aL,cg,cD];refine⟨rfl,?_⟩)
   rw[Qd,l];refine⟨rg V.R.w8,bP (λj=> .bool (!(cO c 1 j).isSome||decide ((undF (r2F c s) w a)[j]?.getD 0=0))) (λj H K k=> ?_) ?_⟩
   ·dsimp only[bp,cr,b5,aM,Qa,aK,aB,aA,bK];dsimp only[elD];dsimp only[dW,bo,dy,deq,aN,aP,aD,aJ,Qa,aG,aB,aA,aL,dm,bM,cz,ce];refine aS (ew (i:=1) V.R<|by decide) ?_;refine aS (mj V.R (by decide) H) ?_;refine⟨(cJ _).1,?_⟩;rw[(cJ _).2];refine ki (λN=> ?_) λN=> ?_
    ·refine aS (dD<|by rw[h];exact H) ?_
     (dsimp only[cj];refine⟨⟨rfl,rfl⟩,?_⟩)
     rw[N] at k;exact k
    ·rw[N] at k;exact k
   dsimp only[bq,aF,aK,Qa,aM,aA,aB];refine dJ ?_
   (dsimp only[d8,bj,kL,bM,aC,aE,bV,aD,aG,Qa,aA,aB,aL,de,bo,aN,im,n8,mO];refine⟨rfl,?_⟩)
   refine eD (cp _) ?_;refine⟨λq=>by rw[q] at h;rw[<-h] at Z;exact absurd Z<|by decide,?_⟩;have no:okR c (r2F c s) w a=Jd->∀v,K .next (Nb "_law_view_here" b (.tup [dC c,dI r,dI s])<|Nb "_law_left" Jc (dI<|(Qc 2).map (r1F c r))<|Nb "_law_below" Jc (dI<|(Qc w).map (r2F c s))<|Nb "_law_found" Jc (.list<|d.map λo=>dT<|twoF c (r2F c s) w o)<|Nb "_law_row" Jd (dI a)<|Nb "_law_under" Jc (dI<|undF (r2F c s) w a)<|Nb "_law_free" Jc v<|[]):=λq v=>by
    have z:=m v;rw[QY (by rw[q];exact QF),WK,WD,QI] at z;exact z
   refine cB (λp=> ?_) λp=>no (by unfold okR;rw[Y5 p];rfl) _;refine⟨rfl,?_⟩;refine mB (eX _ _) ?_;refine lN (λJ=> ?_) λJ=>no (by unfold okR;rw[J];exact YE _) _;have t:okR c (r2F c s) w a=Jc:=by unfold okR;rw[Y4 p,J];rfl
   rw[QX t,WK] at m;refine hM ?_
   (dsimp only[aG,Qa,aB,aA,aL,de,xw,aK,bv,fsts,dnew,aC,aH,aY,aW,aE,aI,aX,aU,aQ,flags,aD,bt,aT,bH,aP,aN,bI,tgl,bw,bC,bz,bA,cz,ce];refine⟨trivial,rfl,?_⟩)
   refine aS (fR V.R) ?_;dsimp only[bt,aT,bZ,f0,bE];refine g.hc<|wz e (by rw[l,(V.R.at_<|by decide).2]) (by rw[(V.R.at_<|by decide).2];exact V.R.w8) ?_
   (dsimp only[aA,bt,bk];refine⟨rfl,?_⟩)
   refine aS (ew (i:=1) V.R<|by decide) ?_;dsimp only[bt,aT,bZ,f0,bE];refine g.hc<|wz e (by rw[h,(V.R.at_<|by decide).2]) (by rw[(V.R.at_<|by decide).2];exact V.R.w8) ?_
   (dsimp only[aA,bt,bk];refine⟨by decide,rfl,rfl,?_⟩)
   refine⟨Kh (by rw[Qd];exact fl)<|Kt (rfl:Nat.ble 2198 lim=Jc),?_⟩;exact m _
  ·rintro L ⟨Y,A,E,rfl⟩;rw[Kl];refine ip ?_;refine cK ?_
   (dsimp only[b8,aK,Qa,aM,aB,aA,aG,aJ,aL,bC];refine⟨rfl,?_⟩)
   exact g.qr k
 induction f with
 |true=>dsimp only[bt,cU,aA,bk,bq];exact O _
 |false=>dsimp only[bt,cU,aB,bH,i4,iG,Qa,iO,iY,gG,bw,bC,bz,bA,aA,iC,jt,eh,iP,iJ];exact O _
end
def swB(a:Bool)(p:Pl):Pl:=cond a (sw p) p
theorem oE(a:Bool)(p:Pl):dsub (.list [dP p,.tup [.int (p.2:Nat),.int (p.1:Nat)]]) (.int (if a=Jc then 1 else 0))=Ja (dP (swB a p)):=by
 rcases a with⟨⟩<;>rfl
theorem w5{ps:List Pl}{x:Pl->Int}(i:0<=x p):∃A B,lowD ps h w p x= .tup [.int (x p),dNs A,dNs B]:=by
 unfold lowD;by_cases q:x p>0
 ·rw[Y4 q];exact⟨_,_,rfl⟩
 ·rw[Y5 q,Wd (Kz.mp q) i];exact⟨[],[],rfl⟩
theorem oP{K:DRho->Prop}(h:K L):dwss G c c [] L (donFl K Q) X:=h
section
variable{C:Cx}{mg mb:Jq->Option Jf}{n:Nat}{Q:D->Bool->Prop}{X:DX}
theorem ux(e:Env1 C G1 mg mb)(K:ClsC C cls8)(V:VOK c r s h w){pa pb:Nat->Bool}(O:outV c r s h w= .no pa pb)(z:q∈psF c h w){wd:Int}(d:1<=wd)(k:Q (.bool Jc) Jc):
  aR (aO C<|n+7) "_law_none" [(.tup [dC c,dI r,dI s],b),(dP q,b2),(.int wd,b3)] Q X:=by
 refine e.fn e9 (by simp[tab]) rfl λl u P PX g=> ?_;dsimp only[e9];dsimp only[br,ci,bD];have o:∀ {x},outV c r s h w= .tab x->False:=λq=>by rw[O] at q;exact nomatch q
 refine aZ ?_;dsimp only[aN,bq,aF,aK,Qa,aM,aA,aB];refine t0 ⟨rfl,rfl,rfl⟩ ?_;refine f7 ?_
 (dsimp only[aQ,flags,aC,aH,aE,aI,aD,aG,Qa,aB,aA,aL,bI,tgl,bw,bC,bz,bA,aT];refine⟨rfl,?_⟩)
 refine g.hc (rD e V (λo0 q=>(o q).elim) λpa pb o0=> ?_);rw[Y8 (show G1.sub "NoTable" "NoTable"=Jc from rfl)];refine aZ ?_;dsimp only[bl,aN,aD,aG,Qa,aA,aB,aL,bB,cm,bq,aF,aK];refine oP ?_;refine t0 ⟨rfl,rfl,rfl⟩ ?_;refine f7 ?_
 (dsimp only[aQ,flags,aC,aH,aE,aI,aD,aG,Qa,aB,aA,aL,bI,tgl,bw,bC,bz,bA,aT];refine⟨rfl,?_⟩)
 refine g.hc (rC e K V (.ok z) (λq=>sn q) (λo0 o0 o0 q=>(o q).elim) λo0 pa pb o0 o0=> ?_);rw[Y8 (show G1.sub "NoTable" "NoTable"=Jc from rfl)];refine aZ ?_;dsimp only[bl,aN,aD,aG,Qa,aA,aB,aL,bB,cm,bq,aF,aK];refine oP ?_;refine t0 ⟨rfl,rfl,rfl⟩ ?_;refine f7 ?_
 (dsimp only[aQ,flags,aC,aH,aE,aI,aD,aG,Qa,aB,aA,aL,bB,aF,bI,tgl,bw,bC,bz,bA,aT];refine⟨rfl,?_⟩)
 refine g.hc (qj e K V d (λo0 q=>(o q).elim) λpa pb o0=> ?_);rw[Y8 (show G1.sub "NoTable" "NoTable"=Jc from rfl)];refine aZ ?_;dsimp only[bl,aN,aD,aG,Qa,aA,aB,aL,bB,cm,bq,aF,aK];refine oP ?_;refine b0 ?_
 (dsimp only[bo,aF,dy,deq,aN,aD,aG,Qa,aA,aB,aL,cj];refine⟨⟨rfl,rfl⟩,?_⟩)
 exact g.qr k
theorem yz(e:Env1 C G1 mg mb)(K:ClsC C cls8)(R:Rect c h w){D:List (List (Option Int))}(T:TurnK c r s h w a D M s' W m){o:List (List Int)}{val:List Int->Pl->Int}(F:Fam D M s' W m o val){x:Pl->Int}(hx:outV D M s' W m= .tab x)(u:swB a p∈psF D W m)(U:o≠ [])(k:Q (.bool Jc) Jc):
  aR (aO C<|n+7) "_law_same" [(.tup [dC c,dI r,dI s],b),(.bool a,b1),(dP p,b2),(dI<|o.map λZ=>val Z<|swB a p,b3)] Q X:=by
 refine e.fn fk (by simp[tab]) rfl λcl d PQ PX g=> ?_;dsimp only[fk];dsimp only[br,ci,bD];have U:(o.map λZ=>val Z<|swB a p)≠ []:=λq=>U<|KU.mp q;have yes:∀ {J V},outV D M s' W m= .no J V->False:=λq=>by rw[hx] at q;exact nomatch q
 have N:∀ {z},outV D M s' W m= .tab z->z=x:=λq=>by rw[hx] at q;cases q;rfl
 obtain⟨I,E⟩:=F.ends hx u;have S:=fw F.V.R;have i:Good (psF D W m) W m (r1F D M) (r2F D s') (outV D M s' W m):=gN S _ _ _ _ (fill0 F.V)<|QG _;rw[hx] at i;have G:=(l7 (hi:=Jd) S u (msG (r1F D M) Jd (swB a p) x+1) x i<|QG _).1;change Good _ _ _ _ _ (.tab<|endF (psF D W m) (r1F D M) Jd (swB a p) x) at G;obtain⟨v,H,O⟩:=eV u;have l:∀y:Pl->Int,cell (tabV D y W m) (swB a p).1 (swB a p).2=y (swB a p):=λy=>by rw[rj v H,O];rfl
 refine aZ ?_;dsimp only[aP,bj,jb,aC,aE,bV,aD,aG,Qa,aJ,aB,aA,aL,bM,bv,fsts,dnew,aH,aY,aW,aI,aX,aU,bR,dtup,aN];refine aS (gC p) ?_;dsimp only[bB,bk];refine aS (gK p) ?_
 (dsimp only[bB,bk];refine⟨by decide,by decide,rfl,?_⟩)
 refine aS (oE a p) ?_;generalize swB a p=q at*
 rw[show∀t,tg0 (dP q) t=Jb from λo0=>rfl];dsimp only[bq,aF,aK,Qa,aM,aB,aA];refine d3 rfl ?_
 (dsimp only[aQ,flags,aC,aH,aW,aE,aI,aU,aD,aG,Qa,aJ,aB,aA,aL,oq,aF,bk,bI,tgl,bw,bC,bz,bA,aT,bH,bZ,bE];refine⟨rfl,rfl,?_⟩)
 refine g.hc (iN e R T λf=> ?_);dsimp only[bI,tgl,bw,bC,bz,bA,aB];refine g.hc (rC e K F.V (.ok u) (λq=>sn q) (λP y L j=> ?_) λo0 o0 o0 o0 q=>(yes q).elim);rw[N j,<-sj L];dsimp only[aA,bI,tgl,bw,bC,bz,bA,aB,aF,bq,jH,aK,Qa,aM,bK];refine aZ ?_
 (dsimp only[aQ,flags,aC,aH,aW,aE,aI,aU,aD,aG,Qa,aJ,aB,aA,aL,oq,aF,bk,bI,tgl,bw,bC,bz,bA,aT,bH,bZ,bE];refine⟨rfl,rfl,?_⟩)
 refine g.hc (iN e R T λf=> ?_);dsimp only[bI,tgl,bw,bC,bz,bA,aB];refine g.hc (uJ e K F.V (.ok u) (λq=>sn q) (λP y L j=> ?_) λo0 o0 o0 o0 q=>(yes q).elim);rw[N j,<-sj L];obtain⟨A,B,Y⟩:=w5 (ps:=psF D W m) (h:=W) (w:=m)<|G.1 q u;rw[Y,I];unfold higD;rw[E];dsimp only[aA,bI,tgl,bw,gG,eY,bC,bz,bA,eW,aB,bq,aF,aK,Qa,aM];refine aZ ?_;dsimp only[bR,fsts,dtup,aC,aH,aY,aW,aE,aI,aX,aU,aP,aN,aD,aG,Qa,aJ,aB,aA,aL,bt];refine aS (gK q) ?_;refine aS (g6 (gW F.V.R) v) ?_;dsimp only[bt];refine aS (gC q) ?_;refine aS (iI (gW F.V.R) v H) ?_;dsimp only[bB,bk];refine aS (gK q) ?_;refine aS (g6 (gW F.V.R) v) ?_;dsimp only[bt];refine aS (gC q) ?_;refine aS (iI (gW F.V.R) v H) ?_;rw[l,l,I,E]
 (dsimp only[bB,bk,bq,aF,aK,Qa,aM,aA,aB];refine⟨by decide,?_⟩)
 refine b0 ?_
 (dsimp only[d8,bo,aF,dy,deq,aD,aG,Qa,aA,aB,aL,bR,fsts,dtup,aC,aH,aY,aE,aI,aX,aP,aN,gM,ce,cz,ey,bM,bj,tm,bV,de,im,n8];refine⟨rfl,?_⟩)
 refine eD (cp _) ?_;refine⟨U,?_⟩;refine⟨rfl,?_⟩;refine eD (cp _) ?_;refine⟨U,?_⟩;refine⟨by decide,⟨rfl,rfl⟩,?_⟩;rw[fK]
 (dsimp only[aA];refine⟨by decide,⟨rfl,rfl⟩,?_⟩)
 exact g.qr k
end
noncomputable def toI(p:Pl):Int×Int:=((p.1:Int),(p.2:Int))
noncomputable def gb(bs:List Bool)(q:Pl):Bool:=bs.getD (q.1*3+q.2) Jd
theorem uP:∀ (ab:Bool) (w:Fin 3) (e b1 b2 b3 Y b:Bool),chkP ((((allF 2 (w.val+1)).filter (gb [e,b1,b2,b3,Y,b])).map (swB ab)).map toI)=Jc/\srtP ((((allF 2 (w.val+1)).filter (gb [e,b1,b2,b3,Y,b])).map (swB ab)).map toI)=((cond ab (allF (w.val+1) 2) (allF 2 (w.val+1))).filter λq=>gb [e,b1,b2,b3,Y,b] (swB ab q)).map toI:=by decide+kernel
theorem rz(g:Pl->Bool):∀q:Pl,q.1<2->q.2<3->g q=gb [g (0,0),g (0,1),g (0,2),g (1,0),g (1,1),g (1,2)] q:=by
 rintro ⟨a,b⟩ T h
 rcases a with o0|o0|a
 ·rcases b with o0|o0|o0|b
  ·rfl
  ·rfl
  ·rfl
  ·exact absurd h<|QT.mpr (Wq 3 b)
 ·rcases b with o0|o0|o0|b
  ·rfl
  ·rfl
  ·rfl
  ·exact absurd h<|QT.mpr (Wq 3 b)
 ·exact absurd T<|QT.mpr (Wq 2 a)
theorem tu(ab:Bool)(A:1<=w)(B:w<=3)(g:Pl->Bool):chkP ((((allF 2 w).filter g).map (swB ab)).map toI)=Jc/\srtP ((((allF 2 w).filter g).map (swB ab)).map toI)=((cond ab (allF w 2) (allF 2 w)).filter λq=>g (swB ab q)).map toI:=by
 have T:(allF 2 w).filter g=(allF 2 w).filter (gb [g (0,0),g (0,1),g (0,2),g (1,0),g (1,1),g (1,2)]):=WN λq h=>rz g q (allF_mem.mp h).1 (QO (allF_mem.mp h).2 B);have e:((cond ab (allF w 2)<|allF 2 w).filter λq=>g<|swB ab q)=(cond ab (allF w 2)<|allF 2 w).filter λq=>gb [g (0,0),g (0,1),g (0,2),g (1,0),g (1,1),g (1,2)] (swB ab q):=WN λq h=>by
  rcases ab with⟨⟩
  ·exact rz g q (allF_mem.mp h).1 (QO (allF_mem.mp h).2 B)
  ·exact rz g (sw q) (allF_mem.mp h).2 (QO (allF_mem.mp h).1 B)
 rw[T,e]
 rcases w with o0|w
 ·exact absurd A<|by decide
 ·exact uP ab ⟨w,B⟩ _ _ _ _ _ _
theorem zd(ab:Bool)(q:Pl):swB ab (swB ab q)=q:=by rcases ab with⟨⟩<;>rfl
theorem xl(l:List Pl):dPrs (l.map dP)=Ja (l.map toI):=by
 induction l with
 |nil=>rfl
 |cons a l i=>show((dPrOf (dP a)).bind λx=>(dPrs (l.map dP)).map (x:: ·))=_;rw[i];rfl
theorem vr(l:List Pl):(l.map toI).map prD=l.map dP:=by rw[Qx];rfl
section
variable{c c':List (List (Option Int))}{r s r' s':List Int}{w h' w':Nat}{ab:Bool}
theorem TurnK.all(T:TurnK c r s 2 w ab c' r' s' h' w'):allF h' w'=cond ab (allF w 2) (allF 2 w):=by induction T<;>rfl
theorem TurnK.fam(V:VOK c r s 2 w)(T:TurnK c r s 2 w ab c' r' s' h' w'):Fam c' r' s' h' w' (rowsF c (r1F c r) (r2F c s) w) λo q=>valF (r2F c s) o (swB ab q):=by
 induction T with
 |no=>exact fam0 V
 |yes=>exact(fam0 V).turn
theorem TurnK.hid(R:Rect c 2 w)(T:TurnK c r s 2 w ab c' r' s' h' w'){q:Pl}(h:q∈allF h' w'):(cO c' q.1 q.2).isSome=(cO c (swB ab q).1 (swB ab q).2).isSome:=by
 obtain⟨N,p⟩:=allF_mem.mp h
 induction T with
 |no=>rfl
 |yes=>rw[qu R p N];rfl
theorem TurnK.ps(R:Rect c 2 w)(T:TurnK c r s 2 w ab c' r' s' h' w')(h:p∈psF c 2 w):swB ab p∈psF c' h' w':=by
 induction T with
 |no=>exact h
 |yes=>exact(ql R).mpr h
def nrF(o:List (List Int))(C:Nat->Int)(wd:Int)(p:Pl):Bool:=decide (lmax (o.map λZ=>valF C Z p)-lmin (o.map λZ=>valF C Z p)<wd)
theorem x5(V:VOK c r s 2 w)(T:TurnK c r s 2 w ab c' r' s' h' w'){x:Pl->Int}(hx:outV c' r' s' h' w'= .tab x)(B:w<=3)(wd:Int):
  chkP ((((psF c 2 w).filter (nrF (rowsF c (r1F c r) (r2F c s) w) (r2F c s) wd)).map (swB ab)).map toI)=Jc/\srtP ((((psF c 2 w).filter (nrF (rowsF c (r1F c r) (r2F c s) w) (r2F c s) wd)).map (swB ab)).map toI)=((psF c' h' w').filter (gwF (psF c' h' w') (r1F c' r') x wd)).map toI:=by
 have F:=T.fam V;rw[show(psF c 2 w).filter _=(allF 2 w).filter _ from Wn];refine⟨(tu ab V.R.w1 B _).1,?_⟩;rw[(tu ab V.R.w1 B _).2];rw[<-T.all,show(psF c' h' w').filter _=(allF h' w').filter _ from Wn]
 congr 1
 refine WN λq o=> ?_;have h:=T.hid V.R o;show(_&& !(cO c (swB ab q).1 (swB ab q).2).isSome)=(_&& !(cO c' q.1 q.2).isSome)
 rw[h]
 induction Z:(cO c (swB ab q).1 (swB ab q).2).isSome with
 |true=>rw[Bool.not_true,YE,YE]
 |false=>
  rw[Z] at h;obtain⟨p,e⟩:=F.ends hx (q:=q)<|Qj.mpr ⟨o,by rw[h];rfl⟩;unfold gwF nrF;rw[p,e]
end
theorem zB(R:Rect t 2 w)(w3:w<=3)(h4:∀a b,a<2->b<w->0<=cell t a b/\cell t a b<=4)(hid:Nat->Nat->Bool):r1F (cellsF t hid 2 w) (rsF t) 0<=12:=by
 rw[uk R hid (by decide)];have z:∀j,j<=w->((Qc j).map λc=>hv t hid 0 c).sum<=4*(j:Nat):=λj=>by
  induction j with
  |zero=>exact λo0=>QV _
  |succ j ih=>
   intro hj;obtain⟨k1,k2⟩:=h4 0 j (by decide) hj;have k3:hv t hid 0 j<=4:=by
    unfold hv
    induction hid 0 j with
    |true=>exact k2
    |false=>exact(by decide:(0:Int)<=4)
   rw[<-d4,Wf,QH,List.sum_nil,QW];have:=Int.add_le_add (ih<|Kc hj) k3;rw[show(4:Int)*((j+1:Nat):Int)=4*(j:Nat)+4 from by show(4:Int)*((j:Int)+1)=_;rw[Int.mul_add];rfl];exact this
 exact QE (z w<|Qz _)<|Int.mul_le_mul_of_nonneg_left (Kk.mpr w3) (by decide)
theorem nM{L:Type}(f:L->D)(l:List L):D.eqv (.list (l.map f)) (.list [])=decide (l=[]):=by
 induction l with
 |nil=>rfl
 |cons a l=>rw[Y5 λq=>nomatch q];rfl
section
variable{C:Cx}{mg mb:Jq->Option Jf}{n:Nat}{Q:D->Bool->Prop}{X:DX}
def tab9(ns:List Int)(w:Nat):List (List Int):=(Qc 2).map λi=>(Qc w).map λ(j:Nat)=>(mixF ns<|8+(w:Int)*(i:Nat)+j).fmod 5
theorem zT{K:List (Int×Int)->Prop}(e:t=Ja v)(k:K v):oPs K t:=by subst e;exact k
theorem sE(R:Rect c 2 w)(C:Nat->Int)(o:List Int):Rect (twoF c C w o) 2 w:=by
 have p:∀i l,i<2->(putF (rowAt c i) l).length=w:=λi l t=>by rw[putF,Qd,Qr,(R.at_ t).2]
 refine⟨rfl,λr h=> ?_,by decide,by decide,R.w1,R.w8⟩
 rcases QB.mp h with rfl|h
 ·exact p 0 _<|by decide
 ·rw[Qk.mp h];exact p 1 _<|by decide
theorem nU(l:List Pl):D.okd 40 (.list (l.map dP))=Jc:=by rw[gv];exact eT dP (λp=>rfl) _
theorem nh{PX:DSX}(e:Env1 C G1 mg mb)(K:ClsC C cls8)(G:Gen C (n+7) Q X y j PQ PX){ns:List Int}(A:ns.length<=63)(V:VOK c r s 2 w)(I:r1F c r 0<=12)(w3:w<=3)(k:Q (.bool Jc) Jc):
  dwss G1 y j (f_law.b.drop 5) (Nb "_law_script" b' (.scr ns)<|Nb "_law_wide" Jc (.int w)<|No "_law_table" u1<|Nb "_law_view_here" f (.tup [dC c,dI r,dI s])<|No "_law_left" u2<|No "_law_below" u3<|No "_law_rows" u4<|No "_law_columns" u5<|No "_law_hidden_here" Jb<|No "_law_about" Jb<|No "_law_width" Jb<|No "_law_tables_here" Jb<|No "_law_place" Jb<|No "_law_due" Jb<|No "_law_counts" Jb<|[]) PQ PX:=by
 dsimp only[f_law,List.drop];refine aZ ?_
 (dsimp only[aQ,flags,aC,aH,aW,aE,aI,aU,aD,aG,Qa,aJ,aB,aA,aL,bI,tgl,bw,bC,bz,bA,aT,bH,bZ,bE];refine⟨rfl,?_⟩)
 refine G.hc<|mx e V.R ?_;dsimp only[aA,bt,bq,aF,aK,Qa,aM,aB];refine dJ ?_
 (dsimp only[bo,bM,dy,deq,bv,fsts,dnew,aE,aI,aX,aD,aG,Qa,aJ,aB,aA,aL];refine⟨by decide,?_⟩)
 refine⟨⟨nU _,rfl⟩,?_⟩;rw[nM dP];refine cB (λh0=> ?_) λh0=> ?_
 ·refine b0 ?_;dsimp only[cq,aF];exact G.qr k
 refine gF ?_;refine aZ ?_
 (dsimp only[bo,bq,aF,aK,Qa,aM,aB,aA,dy,deq,aN,bl,aQ,flags,aC,aH,aW,aE,aI,aU,bk,aD,aG,aJ,aL,ie,bH];refine⟨rfl,?_⟩)
 refine G.hc<|eB e A ?_
 (dsimp only[jL,dq,cj];refine⟨by decide,by decide,by decide,⟨rfl,rfl⟩,?_⟩)
 generalize decide (((mixF ns 7).fdiv 2).fmod 2=1)=ab;obtain⟨c',r',s',h',w',T⟩:∃c' r' s' h' w',TurnK c r s 2 w ab c' r' s' h' w':=by
  rcases ab with⟨⟩
  ·exact⟨_,_,_,_,_,.no⟩
  ·exact⟨_,_,_,_,_,.yes⟩
 have F:=T.fam V;refine aZ ?_
 (dsimp only[bl,aN,aQ,flags,aC,aH,aW,aE,aI,aU,aF,bk,aD,aG,Qa,aJ,aB,aA,aL,ie,bH];refine⟨rfl,?_⟩)
 refine G.hc<|eB e A ?_
 (dsimp only[dq,cm,bq,aF,aK,Qa,aM,aB,aA];refine⟨by decide,?_⟩)
 have d:1<=1+(mixF ns 4).fmod 6:=KD (iE<|by decide).1;generalize 1+(mixF ns 4).fmod 6=wd at d ⊢;refine aZ ?_
 (dsimp only[aQ,flags,aC,aH,aW,aE,aI,aU,aD,aG,Qa,aJ,aB,aA,aL,bI,tgl,bw,bC,bz,bA,aT,bH,bZ,bE];refine⟨rfl,?_⟩)
 refine G.hc<|sM e V w3 I ?_;have J:∀p∈psF c 2 w,∀o,cell (twoF c (r2F c s) w o) p.1 p.2=valF (r2F c s) o p:=λp h o=>sb V h;have RT:=sE V.R<|r2F c s;have u:=λx hx=>x5 (x:=x) V T hx w3 wd;generalize rowsF c (r1F c r) (r2F c s) w=g at F u;dsimp only[aA,bt,bq,aF,aK,Qa,aM,aB];refine dJ ?_
 (dsimp only[bo,bM,dy,deq,bv,fsts,dnew,aE,aI,aX,aD,aG,Qa,aJ,aB,aA,aL];refine⟨by decide,?_⟩)
 refine⟨⟨by rw[gv];exact eT _ (λo=>zc _ _) _,rfl⟩,?_⟩;rw[nM];refine cB (λN=> ?_) λN=> ?_
 ·obtain⟨p,l,hl⟩:∃p l,psF c 2 w=p::l:=by
   rcases h:psF c 2 w with o0|⟨p,l⟩
   ·exact absurd h h0
   ·exact⟨p,l,rfl⟩
  have hq:=T.ps V.R (p:=p) (by rw[hl];exact .head _);have S:dsub (.list<|(psF c 2 w).map dP) (.int 0)=Ja (dP p):=by rw[hl];exact l2 _ _
  obtain⟨pa,pb,hO⟩:=F.no N;refine aZ ?_;dsimp only[aP,bj,jb,aC,aE,bV,aD,aG,Qa,aJ,aB,aA,aL,bM,bv,fsts,dnew,aH,aY,aW,aI,aX,aU,bR,dtup,aN,bt];refine aS S ?_;refine aS S ?_;refine aS (gC p) ?_;dsimp only[bB,bk];refine aS S ?_;refine aS (gK p) ?_
  (dsimp only[bB,bk];refine⟨by decide,by decide,rfl,?_⟩)
  refine aS (oE ab p) ?_;generalize swB ab p=q at hq ⊢;rw[show∀t,tg0 (dP q) t=Jb from λo0=>rfl];dsimp only[bq,aF,aK,Qa,aM,aB,aA];refine b0 ?_
  (dsimp only[aQ,flags,aC,aH,aW,aE,aI,aU,aD,aG,Qa,aJ,aB,aA,aL,bB,aF,bk,oq,bI,tgl,bw,bC,bz,bA,aT,bH,bZ,bE];refine⟨rfl,rfl,?_⟩)
  refine G.hc (iN e V.R T λf=> ?_);dsimp only[bI,tgl,bw,bC,bz,bA,aB];refine G.hc<|ux e K F.V hO hq d ?_;dsimp only[aA,oq,aF];exact G.qr k
 obtain⟨x,hx⟩:=F.yes N;have E:∀p∈psF c 2 w,∀ (R:D->Bool->Prop) (Y:DX) (b a H Z:Bool),R (.bool Jc) Jc->aR (aO C<|n+7) "_law_same" [(.tup [dC c,dI r,dI s],b),(.bool ab,a),(dP p,H),(dI<|g.map λo=>valF (r2F c s) o p,Z)] R Y:=λp h R Y b a H Z q=>by
  have z:=yz (n:=n) (b:=b) (b1:=a) (b2:=H) (b3:=Z) (X:=Y) e K V.R T F hx (T.ps V.R h) N q;rw[zd] at z;exact z
 have pl:=gf (c:=c) V.R.h8 V.R.w8;refine gF ?_;refine aZ ?_
 (dsimp only[bv,fsts,dnew,aE,aI,aX,aU,bq,aF,aK,Qa,aM,aB,aA];refine⟨by decide,?_⟩)
 refine dK rfl ?_;dsimp only[fsts,aC,aH,aW,aE,aI,aU,c7,aD,aG,Qa,aJ,aB,aA,aL,bt,bH,i4,iG,iO,iC,yU,eW,eY,jt,gG,bw,bC,bz,bA,iY,zo,eh,iP,iJ,cU];refine dl dP (λi L=>∃P v,L=(Nb "_law_script" b' (.scr ns)<|Nb "_law_wide" Jc (.int w)<|No "_law_table" u1<|Nb "_law_view_here" f (.tup [dC c,dI r,dI s])<|No "_law_left" u2<|No "_law_below" u3<|No "_law_rows" u4<|No "_law_columns" u5<|Nb "_law_hidden_here" Jd (.list<|(psF c 2 w).map dP)<|Nb "_law_about" Jc (.bool ab)<|Nb "_law_width" Jc (.int wd)<|Nb "_law_tables_here" Jc (.list<|g.map λo=>dT<|twoF c (r2F c s) w o)<|No "_law_place" P<|Nb "_law_due" Jc (.list<|((((psF c 2 w).take i).filter (nrF g (r2F c s) wd)).map (swB ab)).map dP)<|No "_law_counts" v<|[])) _ _ ⟨_,_,rfl⟩ ?_ ?_
 ·rintro i p L O ⟨P,v,rfl⟩ K' m;have h:=QJ O;obtain⟨M,p2,o0⟩:=eV h;have E:=E p h;have J:=J p h;have fl:(((psF c 2 w).take i).filter (nrF g (r2F c s) wd)).length<=64:=Qq (Ku _ _)<|Qq (by rw[WV];exact Wy _ _) pl;have m:=λv=>m _ ⟨Ja (dP p,Jc),v,rfl⟩;rw[c8 O,Yg] at m;generalize ((psF c 2 w).take i).filter (nrF g (r2F c s) wd)=fd at fl m ⊢;have U:(g.map λo=>valF (r2F c s) o p)≠ []:=λq=>N<|KU.mp q;dsimp only[b5,aK,Qa,aM,aB,aA,bK];refine aZ ?_;refine bY rfl ?_;dsimp only[fsts,aC,aH,aW,aE,aI,aU,c7,aD,aG,Qa,aJ,aB,aA,aL,bt,bH,cU];refine bS (λo=>dT<|twoF c (r2F c s) w o) (λo=> .int (valF (r2F c s) o p)) (λo hr K k=> ?_) ?_
  ·dsimp only[bp,cr,b5,aM,Qa,aK,aB,aA,bK];dsimp only[elD];dsimp only[aP,aN,aD,aJ,Qa,aG,aB,aA,aL,bt];refine aS (gK p) ?_;refine aS (g6 (RT o) M) ?_;dsimp only[bt];refine aS (gC p) ?_;refine aS (iI (RT o) M p2) ?_;dsimp only[bB];rw[J o];exact k
  rw[show(g.map λo=>D.int<|valF (r2F c s) o p)=(g.map λo=>valF (r2F c s) o p).map D.int from by rw[Qx];rfl];dsimp only[bq,aF,aK,Qa,aM,aA,aB];refine dJ ?_
  (dsimp only[cA,bM,aQ,flags,aC,aH,aE,aI,aD,aG,Qa,aJ,aA,aB,aL,bt,aT,oq,aF,bI,tgl,bw,bC,bz,bA];refine⟨rfl,?_⟩)
  refine G.hc<|E _ _ _ _ _ _ ?_;dsimp only[bM,fN,aB];refine gF ?_;refine dJ ?_
  (dsimp only[bo,bM,aD,aG,Qa,aJ,aB,aA,aL,bl,bj,im,aC,aE,n8,de,tm,cT,nk,bV];refine⟨rfl,?_⟩)
  refine eD (cp _) ?_;refine⟨U,?_⟩;refine⟨rfl,?_⟩;refine eD (cp _) ?_;refine⟨U,?_⟩;refine cB (λB=> ?_) λB=> ?_
  ·rw[QX (show nrF g (r2F c s) wd p=Jc from Y4 B),WK,QC,QC] at m;refine hM ?_
   (dsimp only[aG,Qa,aJ,aB,aA,aL,de];refine⟨trivial,?_⟩)
   rw[wC];dsimp only[aK,Qa,aM,aB,aA,aG,aJ,aL,de,aP,bj,jb,aC,aE,bV,aD,bM,bv,fsts,dnew,aH,aY,aW,aI,aX,aU,bR,dtup,aN];refine aS (gC p) ?_;dsimp only[bB,bk];refine aS (gK p) ?_
   (dsimp only[bB,bk];refine⟨by decide,by decide,rfl,?_⟩)
   refine aS (oE ab p) ?_;rw[show∀t,tg0 (dP<|swB ab p) t=Jb from λo0=>rfl];refine⟨rfl,rfl,?_⟩;refine⟨by rw[Qd,Qd];exact cZ<|zb1 fl rfl,?_⟩;exact m _
  ·rw[QY (show ¬nrF g (r2F c s) wd p=Jc from by rw[show nrF g (r2F c s) wd p=Jd from Y5 B];exact QF),WK,QI] at m;exact m _
 ·rintro L ⟨P,v,rfl⟩;rw[Kl];refine ip ?_;refine b0 ?_
  (dsimp only[bo,aF,dy,deq,bj,ss,aC,aE,bV,aD,aG,Qa,aJ,aB,aA,aL,de,aQ,flags,aH,aI,bB,aW,aU,oq,bk,bI,tgl,bw,bC,bz,bA,aT,bH,bZ,bE];refine⟨rfl,rfl,?_⟩)
  refine G.hc (iN e V.R T λf=> ?_);dsimp only[bI,tgl,bw,bC,bz,bA,aB];refine G.hc (qj e K F.V d (λx' W=> ?_) λo0 o0 q=>by rw[hx] at q;exact nomatch q);refine⟨rfl,?_⟩;refine zT (xl _) ?_;obtain⟨d1,d2⟩:=u x' W;rw[d2,vr];refine⟨⟨d1,by rw[Qd];exact zb2 (Qq (Ku _ _)<|gf (c:=c') F.V.R.h8 F.V.R.w8) rfl⟩,?_⟩;refine⟨⟨nU _,nU _⟩,?_⟩;rw[fK];exact G.qr k
theorem zr(e:Env1 C G1 mg mb)(K:ClsC C cls8){ns:List Int}(h:ns.length<=63)(k:Q (.bool Jc) Jc):aR (aO C (n+8)) "law" [(.scr ns,b')] Q X:=by
 refine e.fn f_law (by simp[tab]) rfl λcl cu PQ PX g=> ?_;dsimp only[f_law];dsimp only[br,ci,bD];refine aZ ?_
 (dsimp only[bl,aN,aQ,flags,aC,aH,aW,aE,aI,aU,aF,bk,aD,aG,Qa,aJ,aB,aA,aL,ie,bH];refine⟨rfl,?_⟩)
 refine g.hc<|eB e h ?_
 (dsimp only[dq,cm,bq,aF,aK,Qa,aM,aB,aA];refine⟨by decide,?_⟩)
 obtain⟨Y,L,M⟩:=xC (a:=mixF ns 1) (b:=3) (by decide);replace L:(mixF ns 1).fmod 3=(Y:Int):=L;rw[L,show(1:Int)+Y=((Y+1:Nat):Int) from Kr _ _];have B:Y+1<=3:=M;have A:1<=Y+1:=YC _;generalize Y+1=w at B A;clear L M;have U:w<=8:=Qq B (by decide);refine aZ ?_;refine bY rfl ?_
 (dsimp only[fsts,aC,aH,aW,aE,aI,aU,aN,bk,eA];refine⟨by decide,?_⟩)
 refine bP (λi=>dI<|(Qc w).map λ(j:Nat)=>(mixF ns<|8+(w:Int)*(i:Nat)+j).fmod 5) (λi p K k=> ?_) ?_
 ·dsimp only[bp,cr,b5,aM,Qa,aK,aB,aA,bK];dsimp only[elD];refine bY rfl ?_;dsimp only[fsts,aC,aH,aW,aE,aI,aU,aD,aJ,Qa,aG,aB,aA,aL,bB,bk,eA,eP];refine⟨rg U,bP (λj=> .int ((mixF ns<|8+(w:Int)*(i:Nat)+j).fmod 5)) (λj hj K k=> ?_) ?_⟩
  ·dsimp only[bp,cr,b5,aM,Qa,aK,aB,aA,bK];dsimp only[elD]
   (dsimp only[bl,aN,aQ,flags,aC,aH,aW,aE,aI,aU,aD,aJ,Qa,aG,aB,aA,aL,bB,oO,cm,aF,bk,ie,bH];refine⟨rfl,?_⟩)
   refine⟨.inl<|by exact zb1 U rfl,?_⟩;refine g.hc<|eB e h ?_
   (dsimp only[dq];refine⟨by decide,?_⟩)
   exact k
  ·rw[dI,Qx] at k;exact k
 rw[show((Qc (2:Int).toNat).map λ(i:Nat)=>dI<|(Qc w).map λ(j:Nat)=>(mixF ns<|8+(w:Int)*(i:Nat)+j).fmod 5)=(tab9 ns w).map dI from by rw[tab9,Qx];rfl];have R:Rect (tab9 ns w) 2 w:=Rect.range _ (by decide) (by decide) A U;have O:∀a b,a<2->b<w->0<=cell (tab9 ns w) a b/\cell (tab9 ns w) a b<=4:=λa b ha S=>by
  unfold cell tab9;rw[eZ _ ha,cV _ S];have z:=iE (a:=mixF ns<|8+(w:Int)*(a:Nat)+b) (b:=5) (by decide);exact⟨z.1,Int.le_of_lt_add_one z.2⟩
 have N:NN (tab9 ns w):=λaa hr i p=>by
  obtain⟨a,o0,rfl⟩:=Qi.mp hr;obtain⟨b,o0,rfl⟩:=Qi.mp p;exact(iE<|by decide).1
 generalize tab9 ns w=t at R O N;dsimp only[bq,aF,aK,Qa,aM,aB,aA];refine aZ ?_
 (dsimp only[aQ,flags,aC,aH,aW,aE,aI,aU,aD,aG,Qa,aJ,aB,aA,aL,bt,aT,bH,ie,aF,bk,bZ,bE];refine⟨rfl,rfl,?_⟩)
 refine g.hc<|tW e h R ?_;dsimp only[aA,bt,aF,bk,bH,bZ,bE];generalize placesF ns 2 w=d;refine g.hc<|xX e R ?_;dsimp only[aA,bI,tgl,bw,bC,bz,bA,aB,bq,aF,aK,Qa,aM];have V:=vok R N<|hidF d;have D:=zB R B O<|hidF d;rw[viewF];generalize cellsF t (hidF d) 2 w=c at V D ⊢;generalize rsF t=r at V D ⊢;generalize csF t w=s at V ⊢;clear R N O;refine d3 rfl ?_
 (dsimp only[aQ,flags,aC,aH,aW,aE,aI,aU,aD,aG,Qa,aJ,aB,aA,aL,bI,tgl,bw,bC,bz,bA,aT,bH,bZ,bE];refine⟨rfl,?_⟩)
 refine g.hc<|ik e V.R V.hr V.hs ?_;dsimp only[aA,bI,tgl,bw,bC,bz,bA,aB,aF,bq,jH,aK,Qa,aM,bK];refine dJ ?_
 (dsimp only[bo,bM,dy,deq,aN,bl,aQ,flags,aC,aH,aW,aE,aI,aU,aF,bk,aD,aG,Qa,aJ,aB,aA,aL,ie,bH];refine⟨rfl,?_⟩)
 refine g.hc<|eB e h ?_
 (dsimp only[dq,cj];refine⟨by decide,⟨rfl,rfl⟩,?_⟩)
 refine cB (λZ=> ?_) λZ=> ?_
 ·refine aZ ?_
  (dsimp only[aQ,flags,aC,aH,aW,aE,aI,aU,bl,aN,aF,bk,aD,aG,Qa,aJ,aB,aA,aL,ie,bH];refine⟨rfl,rfl,?_⟩)
  refine g.hc<|eB e h ?_
  (dsimp only[dq,cm,aF,bk,bH];refine⟨by decide,?_⟩)
  have v:=iE (a:=mixF ns 9) (b:=9) (by decide);have W:0<=1+(mixF ns 9).fmod 9:=Int.add_nonneg (by decide) v.1;have F:1+(mixF ns 9).fmod 9<=12:=QE (Int.add_le_add_left (WC v.2) 1) (by decide);generalize 1+(mixF ns 9).fmod 9=o at W F ⊢;refine g.hc (nf (m:=2) e h (by decide) (by decide) W λl H q P=> ?_);dsimp only[aA,bt,bq,aF,aK,Qa,aM,aB];refine aZ ?_
  (dsimp only[aQ,flags,aC,aH,aW,aE,aI,aU,bj,f5,aF,bk,bV,aD,aG,Qa,aJ,aB,aA,aL,de,bB,aN,ie,bH];refine⟨rfl,rfl,?_⟩)
  refine eD (cp _) ?_;refine g.hc (nf e h A U (by rw[P];exact W) λm x nm sm=> ?_);dsimp only[aA,bt,bq,aF,aK,Qa,aM,aB];have I:=vU V H x q nm sm.symm;have T:r1F c (newS r (r1F c r) l 2) 0<=12:=by
   rw[n3 (by decide)];have z:=t7 (f:=λk=>l[k]?.getD 0) (n:=2) (λi p=>q _<|get_mem (by rw[H];exact p)) (i:=0) (by decide);have y:=fW l;rw[H] at y;rw[y,P] at z;exact QE z F
  refine aZ ?_;dsimp only[bR,fsts,dtup,aC,aH,aY,aW,aE,aI,aX,aU,aP,aN,aD,aG,Qa,aJ,aB,aA,aL,bI,tgl,bw,bC,bz,bA,jl,ce,bt,bH,cz];refine bY rfl ?_
  (dsimp only[fsts,aC,aH,aW,aE,aI,aU,aN,bk,eA];refine⟨by decide,?_⟩)
  refine bP (λk=> .int (r[k]?.getD 0-r1F c r k+l[k]?.getD 0)) (λi p K k=> ?_) ?_
  ·have p:i<2:=p;dsimp only[bp,cr,b5,aM,Qa,aK,aB,aA,bK];dsimp only[elD];dsimp only[bl,aP,aD,aJ,Qa,aG,aB,aA,aL,bt,aN,bI,tgl,bw,bC,bz,bA,jo,ce];refine aS (dD (r:=r)<|by rw[V.hr];exact p) ?_;dsimp only[bB];refine aS (d5 p) ?_;dsimp only[cT];refine aS (dD (r:=l)<|by rw[H];exact p) ?_;dsimp only[cm];exact k
  (dsimp only[bk,bZ,f0,bE,i4,iG,Qa,iO,iC,yU,eW,aB,eY,bC,bA,iY,gG,bw,bz,aA,jt,eh,iP,iJ,aT,aK,aM];refine⟨by decide,?_⟩)
  refine aZ ?_;dsimp only[bR,fsts,dtup,aC,aH,aY,aW,aE,aI,aX,aU,aP,aN,aD,aG,Qa,aJ,aB,aA,aL,bI,tgl,bw,bC,bz,bA,jo,ce,bt,cz];refine bY rfl ?_;dsimp only[fsts,aC,aH,aW,aE,aI,aU,aD,aG,Qa,aJ,aB,aA,aL,bB,bk,eA,eP];refine⟨rg U,bP (λk=> .int (s[k]?.getD 0-r2F c s k+m[k]?.getD 0)) (λi p K k=> ?_) ?_⟩
  ·dsimp only[bp,cr,b5,aM,Qa,aK,aB,aA,bK];dsimp only[elD];dsimp only[bl,aP,aD,aJ,Qa,aG,aB,aA,aL,bt,aN,bI,tgl,bw,bC,bz,bA,jl,ce];refine aS (dD (r:=s)<|by rw[V.hs];exact p) ?_;dsimp only[bB];refine aS (d5 p) ?_;dsimp only[cT];refine aS (dD (r:=m)<|by rw[x];exact p) ?_;dsimp only[cm];exact k
  (dsimp only[bk,bH,bZ,f0,bE,i4,iG,Qa,iO,iC,yU,eW,aB,eY,bC,bA,iY,gG,bw,bz,aA,jt,eh,iP,iJ,aT,aK,aM];refine⟨by decide,?_⟩)
  refine gF ?_;have:=λf u G u3 J E=>nh (b':=b') (f:=f) (u1:=u) (u2:=G) (u3:=u3) (u4:=J) (u5:=E) e K g h I T B k;rw[newS,newS,dI,dI,Qx,Qx] at this;exact this _ (Ja (dT t,_)) (Ja (_,_)) (Ja (_,_)) (Ja (_,_))<|Ja (_,_)
 ·refine gF ?_;exact nh (u1:=Ja (dT t,_)) (u2:=Ja (_,_)) (u3:=Ja (_,_)) e K g h V D B k
theorem pure09(C:Cx)(mg mb:Jq->Option Jf)(g:GOK C G1 mg mb)(x:ExcOK C G1 mg mb)(k:C.ok)(J:∀t∈tab0,X4 λa o f body=>FnAt C t.f t.ps t.b a o f body)(l:∀c,kinds7.cl=Ja c->ClsC C c)(ns:List Int)(h:ns.length<=63):
  aO C 20 "law" [.scr ns] noPH (λv o0=>v= .bool Jc) λo0 o0=>False:=
 zr (n:=12) (b':=Jd) (Q:=λd o0=>d= .bool Jc) (X:=λo0 o0=>False) ⟨g,x,k,λt W=>(Qt.mp (show t∈tab0++cls8.ms from W)).elim (J t) λq=>(l _ rfl).rec λo0 o0 o0 o0 o0 m=>m t q⟩ (l _ rfl) h rfl noPH [.scr ns] [[]] _ _ (.cons ⟨⟨rfl,Qq h (by decide)⟩,rfl⟩ (λq=>(nomatch q)) (λp D=>(nomatch D)) .nil) (λd b v T F q r=>by
  subst q;exact r.rd.1) λo0 o0 o0 o0 o0 q o0=>q
end
section
open PySem.W PyProof.Rows
section
variable{tb:String->Option Builtin}{p:Jn}{w:Jm}{n₀:Nat}{ann:Option Jf}
theorem qV{n:Nat}:∀ {s s':SharedT} {t:Thread},jN tb p w n₀ ann n s t=Ja s'->topRun tb p w n₀ ann n s.abs t=Ja s'.abs:=by
 induction n with
 |zero=>exact λh=>ns h
 |succ n ih=>
  intro s s' t h;replace h:cond (through t) (Ja s) (cond (stepOk n₀ ann t) ((stepT (denote tb) p w s t).bind λq=>jN tb p w n₀ ann n q.1 q.2) Jb)=Ja s':=h;unfold topRun
  induction ht:through t with
  |true=>rw[ht] at h;exact Ub (λz=>Ja<|SharedT.abs z)<|sj h
  |false=>
   rw[ht] at h
   induction ho:stepOk n₀ ann t with
   |false=>rw[ho] at h;exact ns h
   |true=>
    rw[ho] at h;obtain⟨q,hs,h⟩:=Qn.mp h;rw[stepT_spec hs];exact ih h
theorem k8{life:Life}:∀ (os:List Jp) (t:BT) (n:Nat) (t':BT),lZ os t n=Ja t'->absHeap t' (n+os.length) life=⟨(absHeap t n life).objs++os.toArray,life⟩
 |[],t,n,t',h=>by cases h;rw[Array.append_empty];rfl
 |o::os,t,n,t',h=>by
  have h:cond ((t.ins n o).get n).isSome (lZ os (t.ins n o)<|n+1) Jb=Ja t':=h;cases g:((t.ins n o).get n).isSome with
  |false=>rw[g] at h;cases h
  |true=>
   rw[g] at h;have z:=k8 (life:=life) os (t.ins n o) (n+1) t' h;rw[absHeap_ins g] at z;rw[KW,<-Nat.add_assoc,QQ,z];show Heap.mk ((absHeap t n life).objs.push o++os.toArray) life=_
   congr 1
   apply Array.ext';simp
theorem wc{s:Je}{sT:SharedT}(h:toT s=Ja sT):sT.abs=s:=by
 obtain⟨t,e,rfl⟩:=Qs.mp h;have z:=k8 (life:=s.heap.life) _ _ _ _ e;obtain⟨⟨objs,life⟩,gens,drawn,toks,os⟩:=s;dsimp only at z ⊢;rw[WP,WY] at z;unfold SharedT.abs;dsimp only;rw[z]
 congr 2
 simp[absHeap,BT.list]
theorem on{N:Nat}{s₀ s:Je}(h:iM tb p w N s₀=Ja s):topFrom tb p w N s₀=Ja s:=by
 unfold iM at h;unfold topFrom;cases e1:(s₀.heap.isNs JA&&s₀.gens.size==0) with
 |false=>rw[e1] at h;cases h
 |true=>
  rw[e1] at h;dsimp only at h ⊢;obtain⟨s₁,h1,h2⟩:=Qn.mp h;obtain⟨sT,h3,h4⟩:=Qn.mp h1;have z:=qV h4;rw[wc h3] at z;rw[z];exact h2
theorem left_T{q:Jn}{loose:List Jq}{Xt:Je->Bool}{α:Type}{Yf:Je->α}{Ya:Jm->α}{N:Nat}{g0:Bool}
  (h:∀w:Jm,((fencedOpening Y1 p w N).bind (iM Y1 p w N)).map (λs=>(openSeen q loose (importedModules p.main.body) Xt g0 s,Yf s))=Ja (openGood q loose,Ya w)):LeftO p q loose Xt Yf Ya N g0:=λw=>by
 obtain⟨s,e,a⟩:=Qs.mp<|h w;obtain⟨s₀,e1,e2⟩:=Qn.mp e;unfold openEnds;rw[e1];show Wx _ (topFrom Y1 p w N s₀)=_;rw[on e2];exact Ub Ja a
end
end
end Vl.Internal
end
open PySem.W PyProof.Rows
set_option maxRecDepth 100000 in
set_option maxHeartbeats 0 in
theorem PySem.Challenge.cw_uf010011_09_holds : PySem.Challenge.rw_uf010011_09.Holds := by
 w_on
 refine holds_law (by decide+kernel) λsaid=> ?_;refine holds_open (q:=Vl.Internal.view7) (loose:=[]) (Xt:=λs=>recOk (RowW.records<|OpenRow.toRowW (OpenLaw.row PySem.Challenge.rw_uf010011_09)) s) (XP:=λo0 o0=>True) (Yf:=Hook.obs<|Vl.Internal.hookE Vl.Internal.kinds7) (Ya:=Hook.val<|Vl.Internal.hookE Vl.Internal.kinds7) (YP:=Hook.says<|Vl.Internal.hookE Vl.Internal.kinds7) (N:=16000) ?hl (Hook.of<|Vl.Internal.hookE Vl.Internal.kinds7) (Hook.keeps<|Vl.Internal.hookE Vl.Internal.kinds7) (λo0 o0=>trivial) (λo0 o0 o0 o0 o0=>trivial) (by rfl) (by rfl) (by rfl) (λs e=>recFacts_of e) (by rfl) (by assumption) (by decide+kernel) ⟨rfl,rfl,rfl,rfl,rfl,by decide+kernel⟩ ?hw ?hc
 case hl=>exact Vl.Internal.left_T Vl.Internal.hl8
 case hw=>w_witness2
 case hc=>exact Vl.Internal.law_walk (N:=20) [("MOST",.int 8),("ROW",.str "row"),("COLUMN",.str "column")] Vl.Internal.tab0 Vl.Internal.kinds7 rfl rfl rfl (by decide+kernel) (by decide+kernel) (by decide+kernel) (by decide) (λc q=>by cases q;rfl) (by decide+kernel) Vl.Internal.pure09
