import PyProof.Rows.All
import PyProof.Logic
import PyProof.TupleKey
import PyProof.DictRoadsH
import PyProof.DictKinds
import PyProof.EqKinds
import KE.KDictList
import PyProof.ExcInit
import PyProof.ExcClass3
import PyProof.InstStoreFacts
import PyProof.AssignAttr
import PyProof.Cells
import PyProof.ExcBaseAll.ValueError
import OpenK.KWalk
import PyProof.Walks
import PyProof.WalksMore
import PyProof.StationsW
import PyProof.P3Statements
import PyProof.Dict
import PyProof.TupleIter
import PyProof.RangeIter
import PyProof.Rows.MatchSeqLen
import PyProof.CompIC
import KE.KTryMore
import PyProof.RulesAs
import PyProof.ExcAttrAll.ValueError
import PyProof.Rows.OwnQ
import Open.Head
import Open.Tree
import PyProof.EvalArms
import PyProof.Calls
import PyProof.CallRoads
import PyProof.PureInt
import PyProof.DefCall
import PyProof.SliceMore
import PyProof.ListOps
import PyProof.TupleOps
import PyProof.NoPylong
import PyProof.Rows.RuleB_small
import PyProof.Rows.RuleB_mod
import PyProof.Rows.RuleB_floordiv
import PyProof.Rows.SeqMore
import PyProof.Rows.TupTab
import PyProof.P3In
import PyProof.EqLayable
import PyProof.Rows.SortWalk
import PyProof.SumAny
import PyProof.MinMaxWalk
import PyProof.WalkInts
import PyProof.MaxThree
import PyProof.SeqI3
import PyProof.ConsumeWalk
import PyProof.TupleOfSeq
import PyProof.TupleCall
import PyProof.ListCopy
import PyProof.ListRange
import PyProof.Conv_int_bool
import PyProof.Rows.RuleN_abs
import PyProof.Rows.RuleN_isinstance
import KE.KDictOf
import PyProof.DictUpdate
import PyProof.IsiTupleOf
import PyProof.IsInstanceH
import PyProof.ListIndexNeg
import PyProof.Rows.TupMore
import PyProof.Rows.StrTemp
import PyProof.EnumMake
import PyProof.EnumFor
import PyProof.EnumStmt
import PyProof.ZipIter
import PyProof.WalksEnum
import PyProof.RangeFor
import PyProof.CompFree
import PyProof.PlainList
import PyProof.ForAppend
import PyProof.Rows.Chain
import PyProof.Rows.ChunkLeaf
import PyProof.DictStraight
import PyProof.DictTable
import PyProof.RulesAssignMore
import PyProof.Raises
import PyProof.ObjNew
import PyProof.NsMap
import Wide.All
import OpenK.KLine
import PySem.Challenge.RW_uf010011_12
set_option linter.unusedVariables false
set_option linter.unusedSimpArgs false
set_option tactic.hygienic false
set_option compiler.extract_closed false
set_option bootstrap.genMatcherCode false
set_option genSizeOf false
set_option genSizeOfSpec false
set_option genInjectivity false
set_option backward.match.sparseCases false
open String renaming reduceBEq->Qa
open PySem.Str renaming ofString->Qb
open List renaming range->Qc, length_map->Qd, mem_map->Ql, mem_range->Qf, mem_filter->Qh, map_cons->Qo, mem_append_right->Qe, mem_singleton->Qj, mem_cons->Qw, mem_append->Qr, map_congr_left->Qm, mem_append_left->Qk, nodup_cons->Qx, getElem?_map->Qs, all_eq_true->Qv, map_map->QE, nodup_append->Qu, getElem?_eq_getElem->Qi, length_range->QA, map_append->QD, append_nil->QH, map->Ky, length_append->QG, mem_of_getElem?->QB, sum_cons->QW, getElem?_eq_some_iff->QF, any_eq_true->Ke, take_length->Kj, sum->Wn, nodup_range->Ko, nodup_iff_pairwise_ne->QP, not_mem_nil->Kx, of_mem_zip->Kz, nil_append->KB, filter->Wg, append_assoc->Kr, filter_cons_of_pos->QZ, filter_cons_of_neg->Ka, length_cons->KU, getElem?_set->KQ, mem_cons_of_mem->KC, sublist_cons_self->Ku, map_nil->WG, contains_cons->KZ, mem_cons_self->Wa, drop->Yu, length_nil->Wv, getElem_of_mem->Wi, getElem_mem->Wo, getElem?_eq_none->KW, pairwise_map->Wk, length_set->Ww, length_filter_le->KX, sum_append->WV, ext_getElem?->Wz, getElem?_range->Wp, lookup->YE, zip_cons_cons->Ws, length->YF, getElem_range->Wt, map_set->YA, filter_filter->Wu, map_eq_nil_iff->Wr, getElem_map->Yo, contains_nil->Yd, lookup_cons->Yp, find?_some->Yx, mem_of_find?_eq_some->Wl, length_singleton->WE, length_take->Yq, getElem?_append_left->Wm, take_sublist->Ye, filter_eq_self->WP, filter_congr->Yg, countP_append->WX, length_eq_zero_iff->Yb, take_of_length_le->Yj, filter_eq_nil_iff->Yk, exists_cons_of_ne_nil->WL, drop_eq_getElem_cons->WQ, getElem?_eq_none_iff->WR, getElem?_append_right->WM, getElem?_of_mem->Yr, mem_of_mem_take->Ys, drop_eq_nil_iff->Yt
open Nat renaming le_trans->Qn, le_refl->Qy, zero_le->QT, not_lt->Kc, le_of_eq->QU, add_right_comm->QI, lt_succ_self->QN, lt_of_lt_of_le->QJ, add_le_add->Ki, le_of_lt->Kv, le_of_succ_le->Kh, lt_irrefl->KJ, lt_of_le_of_lt->Km, zero_add->KR, le_succ->Wf, succ_le_succ->Kw, add_le_add_right->Kl, le_add_right->KF, add_le_add_left->KL, not_lt_zero->Wd, le_of_lt_succ->We, ne_of_gt->WH, ne_of_lt->WZ, succ_pos->Yz, lt_succ_of_lt->Wy, le_succ_of_le->WA, add_assoc->Yl, min_le_right->WK, mul_le_mul->Yc, le_of_ble_eq_true->WD, mul_le_mul_left->WN, succ_lt_succ->Yn, le_antisymm->Yw
open Bool renaming and_eq_true_iff->Qg, false_ne_true->QC, not_eq_true'->QQ, and_eq_true->QV, eq_iff_iff->Kn, eq_false_iff->WC, or_eq_true_iff->Wq, true_and->Ym, or_eq_true->Yv, and_false->YC
open Int renaming le_trans->QL, le_refl->QX, ofNat_lt->Kf, add_zero->Kg, natCast_nonneg->QS, ofNat_le->Kq, not_lt->KI, add_comm->KS, add_assoc->KO, toNat_lt->KT, ofNat_inj->KP, sub_eq_add_neg->Kt, zero_add->Wh, lt_of_lt_of_le->KY, sub_zero->WF, sub_sub->WT, not_le->Yh, le_add_of_nonneg_right->Ks, le_of_lt->WY, add_sub_assoc->Wx, le_antisymm->WU, sub_self->Yy, sub_add_cancel->WW, toNat_of_nonneg->WO, add_nonneg->YD, sub_nonneg_of_le->WJ
open PySem.Heap renaming lt_size->QO, get?_push_of_some->Qz, get?_push_size->QK, SameBut->KM, get?_update_self->QY, size_push->KN, get?_update_other->KH, get?_none_of_le->WI
open Option renaming bind_eq_some_iff->Qq, map_eq_some_iff->Qt, map->Wj, isNone_iff_eq_none->Kd, bind_some->KV, map_some->Wc
open Array renaming getElem?_eq_getElem->Kk, getElem?_eq_some_iff->KG, getElem?_eq_none->Yi, length_toList->YB, getElem?_setIfInBounds_self_of_lt->Wb
open PySem renaming wpAny_bind->YG, wpAny_pure->YH, wpAny_mono->YI, wpAny_holding->YJ, wpAny_standAt->YK, wpAny_field->YL, wpAny_call_entry->YM
set_option Elab.async false
set_option maxRecDepth 100000
set_option maxHeartbeats 0
set_option autoImplicit true
set_option relaxedAutoImplicit true
open Option renaming some->Ja, none->Jb
open Bool renaming true->Jc, false->Jd
open PySem
open PySem renaming Shared->Je,Value->Jf,Addr->Jg,wpAny->Jh,Heap->Ji,Around->Jj,Scope->Jk,Expr->Jl,World->Jm,Program->Jn,Stmt->Jo,Obj->Jp,Str->Jq,FuncData->Jr,Env->Js,model->Jt,truthy->Ju,mem_of_lookup->Jv,eval->Jw,rawInt->Jx,wpAny_loadPart_at->Jy,call_isinstance->Jz,mainGlobals->JA,wpAny_newObj_type->JB,sysModules->JC,starEach->JD,excClassObj->JE,wpAny_setField->JF,behindInMarks->JG,wpAny_dictEntries->JH,wpAny_Constant_none->JI,sizeLine->JJ,wpAny_execs_nil->JK,entryOfKey->JL,assignEach->JM,DictEntry->JN,cellsFrom->JO,isSubtype_type->JP,foldedSetIterable->JQ,swapsWith->JR,setFlight->JS,wpAny_typeNameOfWhole_keyiter->JT,sizeLine_eq->JU,NameKind->JV,backTo->JW,wpAny_isTrue_BoolOp->JX,typeLookup->JY,recursionLimit->JZ,OwnTail->J0,spliced->J1,keywordEach->J2,ExceptHandler->J3,wpAny_execs_cons->J4,wpAny_Name->J5,wpAny_allTrue_And_cons->J6,size_of_entries->J7,isinstance_true->J8,wpAny_notOrdered_dict->J9,wpAny_allTrue_Or_cons->YN,wpAny_isTrue_Compare1->YO,pyIter->YQ,PyData->YR,wpAny_loadName_local->YS,compareOp->YT,isSubtype->YU,wpAny_isSubtype_exc->YV,atKey->YW,wpAny_setSeqItemAt->YX,bootBuiltins->YY,bindArgs->YZ,plainObj_wpAny_Assign_Attribute->Y0,checkBuiltinCall->Y1,treeTable->Y2,pushCells->Y3,isTrue->Y4,cLine->Y5
noncomputable section
namespace Vl.Internal
theorem Y6{p:Prop}[Decidable p](h:p):decide p=Jc:=decide_eq_true h
theorem Y7{p:Prop}[Decidable p](h:¬p):decide p=Jd:=decide_eq_false h
theorem Y8{p:Prop}[Decidable p](h:decide p=Jc):p:=of_decide_eq_true h
theorem Y9{c:Prop}{h:Decidable c}(k:¬c){α:Sort _}{t e:α}:ite c t e=e:=if_neg k
theorem Ua{c:Prop}{h:Decidable c}(k:c){α:Sort _}{t e:α}:ite c t e=t:=if_pos k
theorem Ub{α:Type _}[BEq α][LawfulBEq α]{a b:α}(h:(a==b)=Jc):a=b:=eq_of_beq h
theorem Uc{p:Prop}[Decidable p]:(decide p=Jc)=p:=decide_eq_true_eq
theorem Ud{α:Sort _}{β:Sort _}{a b:α}(f:α->β)(h:a=b):f a=f b:=congrArg f h
inductive X2{α β:Type}(P:α->β->Prop):Prop
 |mk (a:α) (b:β) (h:P a b):X2 P
inductive X3{α β γ:Type}(P:α->β->γ->Prop):Prop
 |mk (a:α) (b:β) (c:γ) (h:P a b c):X3 P
inductive X4{α β γ δ:Type}(P:α->β->γ->δ->Prop):Prop
 |mk (a:α) (b:β) (c:γ) (d:δ) (h:P a b c d):X4 P
inductive X5{α β γ δ ε:Type}(P:α->β->γ->δ->ε->Prop):Prop
 |mk (a:α) (b:β) (c:γ) (d:δ) (e:ε) (h:P a b c d e):X5 P
inductive X6{α β γ δ ε ζ:Type}(P:α->β->γ->δ->ε->ζ->Prop):Prop
 |mk (a:α) (b:β) (c:γ) (d:δ) (e:ε) (f:ζ) (h:P a b c d e f):X6 P
inductive A3(a b c:Prop):Prop
 |mk (p:a) (q:b) (r:c):A3 a b c
inductive A4(a b c d:Prop):Prop
 |mk (p:a) (q:b) (r:c) (s:d):A4 a b c d
inductive A5(a b c d e:Prop):Prop
 |mk (p:a) (q:b) (r:c) (s:d) (t:e):A5 a b c d e
inductive A6(a b c d e f:Prop):Prop
 |mk (p:a) (q:b) (r:c) (s:d) (t:e) (u:f):A6 a b c d e f
inductive A8(a b c d e f g h:Prop):Prop
 |mk (p:a) (q:b) (r:c) (s:d) (t:e) (u:f) (v:g) (w:h):A8 a b c d e f g h
theorem ns{L:Type _}{a:L}{P:Prop}(h:Jb=Ja a):P:=by cases h
theorem sn{L:Type _}{a:L}{P:Prop}(h:Ja a=Jb):P:=by cases h
theorem bQ{L:Type _}{a:L}{P:Prop}(h:a∈([]:List L)):P:=by cases h
theorem ft{P:Prop}(h:Jd=Jc):P:=by cases h
theorem tf{P:Prop}(h:Jc=Jd):P:=by cases h
theorem sj{L:Type _}{a b:L}(h:Ja a=Ja b):a=b:=Option.some.inj h
theorem wn{L:Type}{M:Model}{A:Jj}{c:Prop}[i:Decidable c]{a b:Sem L}{Q:L->Je->Prop}{E:Jf->Je->Prop}{s:Je}(C:¬c)(h:Jh M A b Q E s):Jh M A (if c then a else b) Q E s:=by rw[Y9 C];exact h
theorem wy{L:Type}{M:Model}{A:Jj}{c:Prop}[i:Decidable c]{a b:Sem L}{Q:L->Je->Prop}{E:Jf->Je->Prop}{s:Je}(C:c)(h:Jh M A a Q E s):Jh M A (if c then a else b) Q E s:=by rw[Ua C];exact h
theorem zle{a b c:Nat}(h:a<=b)(k:b<=c):a<=c:=Qn h k
theorem zl{a b c:Nat}(h:a<=b)(k:b<c):a<c:=Km h k
theorem zll{a b c:Nat}(h:a<b)(k:b<=c):a<c:=QJ h k
theorem zq{a b c:Nat}(h:a<b)(k:b=c):a<c:=Nat.lt_of_lt_of_eq h k
theorem zs(h:a<b+1):a<=b:=We h
theorem zb1(h:a<=b)(k:Nat.ble (b+1) c=Jc):a<c:=Km h<|WD k
theorem zb2(h:a<=b)(k:Nat.ble b c=Jc):a<=c:=Qn h<|WD k
theorem zim(n:Nat): -1000000<(n:Int):=KY (by decide)<|QS n
theorem zip'{a b:Nat}(h:a<=b)(k:b<=1000000:=by decide):(a:Int)<=1000000:=Kq.mpr<|Qn h k
theorem zk1{a b c d e:Nat}(i:a<=8)(N:b<=8)(p:c+d=17)(h:e<=a+b)(w:(d:Int)<e):c=c-1+1:=by
 cases c with
 |zero=>exact absurd (QJ (Kf.mp w)<|Qn h (Ki i N))<|by rw[show d=17 from(KR d).symm.trans p];decide
 |succ c=>rfl
theorem ztn{x a y:Int}(h:x>0)(k:1<=a)(e:y=x-a):y.toNat<x.toNat:=(Int.toNat_lt_toNat h).mpr (by rw[e];exact Int.sub_lt_self x<|KY (by decide) k)
theorem zg1{a b c:Int}(h:a-b=0-c):a+c=b:=by rw[Int.zero_sub] at h;rw[<-Int.sub_neg,<-h,Int.sub_sub_self]
theorem zg2{a b c:Int}(h:a-b=c-0):a=b+c:=by rw[WF] at h;rw[<-h,KS,WW]
theorem zg3{r n x a:Int}(e:n=x+a)(k:1<=a)(h:n<=r):(r-n).toNat<(r-x).toNat:=ztn (Int.sub_pos_of_lt<|KY (e▸Int.lt_add_of_pos_right x (KY (by decide) k)) h) k<|by rw[e,WT]
theorem zg4(h:a+ -x=b+0):x=a-b:=by rw[Kg] at h;rw[<-h,<-Kt,Int.sub_sub_self]
theorem zh1(h:y<8):(8*x+y) / 8=x:=by rw[Nat.mul_add_div (by decide),Nat.div_eq_of_lt h,Nat.add_zero]
theorem zh2(h:y<8):(8*x+y) % 8=y:=by rw[Nat.mul_add_mod,Nat.mod_eq_of_lt h]
theorem zh3(h:x<8)(k:y<8):8*x+y<64:=QJ (Nat.add_lt_add_left k<|8*x)<|WN 8 (Nat.succ_le_of_lt h)
theorem zr1{a b c d:Int}(h:a+b=c):a+d+(b-d)=c:=by rw[KO,<-Wx,KS d b,Int.add_sub_cancel];exact h
theorem zr2{a b c:Int}(h:a+b=c):a+0+b=c:=by rw[Kg];exact h
theorem zr4(h:a+b+2<c):a+1+b<c:=Km (Qn (QU<|QI a 1 b)<|Wf _) h
theorem zr6(h:a+30*(b+1)+300<c):a+3+30*b+300<c:=Km (Kl (by rw[QI];exact KL (by decide:3<=30)<|a+30*b) 300) h
theorem zr8(a b c d:Int):a+b+(c+d)=a+c+(b+d):=by rw[KO,Int.add_left_comm b,<-KO]
theorem zr9{a b:Int}(h:a>0):0<b+a-b:=by rw[KS,Int.add_sub_cancel];exact h
theorem zr10(a b c:Int):a+b+c=a+(c+b*1):=by rw[Int.mul_one,KO,KS b]
theorem zr11{a b c:Int}(h:0<=a)(k:¬a>0)(e:b+a=c):c=b:=by rw[<-e,WU (KI.mp k) h,Kg]
theorem zr12(a b c:Int):a+b+(c+0)=a+c+b:=by rw[Kg,Int.add_right_comm]
theorem zr14(a b c d:Int):a+b-(c+d)=a-c+(b-d):=by rw[<-WT,Wx,Kt,Kt,Kt,Kt];exact(Ud (· + -d) (by rw[KO,KS b,<-KO]:a+(b+ -c)=a+ -c+b)).trans (KO _ _ _)
theorem zmn{a b c d:Nat}(h:a+100<b)(k:c<=50):a+min c d<b:=Km (KL (Qn (Nat.min_le_left _ _)<|Qn k (by decide)) _) h
theorem zmn2{a b c d:Nat}(h:a+100<b)(k:c<=50):a+min c d+2<b:=Km (Ki (KL (Qn (Nat.min_le_left c d) k) a) (by decide:2<=50)) h
theorem zpr(h:a<b):b=b-1+1:=(Nat.sub_add_cancel<|Km (QT _) h).symm
theorem zng{a n:Int}(h:¬0<=a):a+n<n:=by have:=Int.add_lt_add_right (Yh.mp h) n;rw[Wh] at this;exact this
theorem zi1{n:Nat}{k:Int}(h:n<=10000000)(b:k<n):k<2^63:=KY b<|QL (Kq.mpr h) (by decide)
theorem zi2{n:Nat}{k:Int}(h:n<=10000000)(b: -(n:Int)<=k): -(2^63)<=k:=QL (Int.neg_le_neg<|QL (Kq.mpr h) (by decide:((10000000:Nat):Int)<=2^63)) b
theorem zi3{n:Nat}(h:n<=1000000):(n:Int)<2^63:=Int.lt_of_le_of_lt (Kq.mpr h)<|by decide
theorem zw1{a b c:Int}(h:a-b=c-1):a+1-b=c-0:=by rw[KS,Wx,h,KS,WW,WF]
theorem zw2{a b c:Int}(h:a-b=c):a+0-b=c:=by rw[Kg];exact h
theorem zw3{a b c:Int}(h:a-b=c-0):a-(b+1)=c-1:=by rw[<-WT,h,WF]
theorem zw4{a b c:Int}(h:a-b=c):a-(b+0)=c:=by rw[Kg];exact h
theorem zw5{a b c:Int}(h:a-b=0-c):a+1-b=1-c:=by rw[KS,Wx,h,<-Wx,Kg]
theorem zw7{a b c:Int}(h:a-b=1-c):a-(b+1)=0-c:=by rw[<-WT,h,WT,KS,<-WT,Yy]
theorem zrs(n:Int):(if 0<n then n-0 else 0)=(n.toNat:Int):=by
 by_cases h:0<n
 ·rw[Ua h,WF,WO (WY h)]
 ·rw[Y9 h,Int.toNat_of_nonpos (KI.mp h)];rfl
set_option genCtorIdx false in
set_option genInjectivity true in
inductive KA where
 |n(i:Int)
 |t(s:String)
noncomputable abbrev KA.ctorIdx(x:KA):Nat:=KA.casesOn x (λo0=>0) (λo0=>1)
deriving instance DecidableEq for KA
theorem ofString_inj(h:Qb x=Qb y):x=y:=by
 rw[Str.ofString_eq_toList,Str.ofString_eq_toList] at h;have N:x.toList.map Char.toNat=y.toList.map Char.toNat:=by
  have:=Ud (λs:Jq=>s.cps.toList) h
  simpa using this
 have i:Function.Injective Char.toNat:=λa b e=>by
  have:a.val=b.val:=UInt32.toNat_inj.mp e;exact Char.ext this
 have p:x.toList=y.toList:=by
  have:∀ (l m:List Char),l.map Char.toNat=m.map Char.toNat->l=m:=by
   intro l
   induction l with
   |nil=>intro m e;induction m using List.casesOn with|nil=>rfl|cons=>cases e
   |cons a r W=>intro m e;induction m using List.casesOn with|nil=>cases e|cons b q=>simp only[Qo,List.cons.injEq] at e;rw[i e.1,W q e.2]
  exact this _ _ N
 exact String.toList_inj.mp p
noncomputable def kaIs:KA->Jf->Bool
 | .n i,v=>Value.isInt i v
 | .t s,v=>Value.isStrOf (Qb s) v
theorem gj(h:kaIs (.n i) v=Jc):∃t,v= .int i t:=Value.isInt_shape h
theorem gc(h:kaIs (.t s) v=Jc):∃t,v= .str (Qb s) t:=Value.isStrOf_shape h
theorem t0(i:Int)(t:Tok):kaIs (.n i) (.int i t)=Jc:=by simp[kaIs,Value.isInt]
theorem tH(s:String)(t:Tok):kaIs (.t s) (.str (Qb s) t)=Jc:=by simp[kaIs,Value.isStrOf]
def mk(prog:Jn)(w:Jm):KeyKind prog w KA where
 is:=kaIs
 hash:=λk=>match k with
  | .n i=>hashInt i
  | .t s=>hashStr w<|Qb s
 inj:=λv a b T R=>by
  induction a with
  |n i=>
   obtain⟨t,rfl⟩:=gj T
   induction b with
   |n j=>obtain⟨u,e⟩:=gj R;cases e;rfl
   |t s=>obtain⟨u,e⟩:=gc R;cases e
  |t s=>
   obtain⟨t,rfl⟩:=gc T
   induction b with
   |n j=>obtain⟨u,e⟩:=gj R;cases e
   |t G=>obtain⟨u,e⟩:=gc R;injection e with e;rw[ofString_inj e]
 byValue:=λk v h=>by
  induction k with
  |n i=>obtain⟨t,rfl⟩:=gj h;rfl
  |t s=>obtain⟨t,rfl⟩:=gc h;rfl
 pyHash:=λ{A E s k v Q} hv h=>by
  induction k with
  |n i=>obtain⟨t,rfl⟩:=gj hv;exact wpAny_pyHash_int h
  |t x=>obtain⟨t,rfl⟩:=gc hv;exact wpAny_pyHash_str h
 eqBool:=λ{A E s a b u v Q} p hv h=>by
  induction a with
  |n i=>
   obtain⟨t,rfl⟩:=gj p
   induction b with
   |n j=>
    obtain⟨g,rfl⟩:=gj hv;refine wpAny_eqBool_int ?_;have e:(i==j)=decide (KA.n i=KA.n j):=by rw[Kn];simp
    rw[e];exact h
   |t y=>obtain⟨g,rfl⟩:=gc hv;exact SeqAt.EqAt.int_str i t _ g prog w E Q<|by rw[Y7 (λe=>by cases e)] at h;exact h
  |t x=>
   obtain⟨t,rfl⟩:=gc p
   induction b with
   |n j=>obtain⟨g,rfl⟩:=gj hv;exact SeqAt.EqAt.str_int _ t j g prog w E Q<|by rw[Y7 (λe=>by cases e)] at h;exact h
   |t y=>
    obtain⟨g,rfl⟩:=gc hv;refine wpAny_eqBool_str ?_;have e:decide (Qb x=Qb y)=decide (KA.t x=KA.t y):=decide_eq_decide.mpr ⟨λe=>by rw[ofString_inj e],λe=>by cases e;rfl⟩;rw[e];exact h
 «strs»:=λk x t v h=>by
  induction k with
  |n i=>obtain⟨g,e⟩:=gj h;cases e
  |t s=>obtain⟨g,e⟩:=gc h;injection e with e;subst e;rcases v with⟨⟩<;>rfl
abbrev tk(prog:Jn)(w:Jm):HeapKind prog w (List KA):=tupleKind<|mk prog w
section
variable{prog:Jn}{w:Jm}{K:Type}[DecidableEq K]{knd:HeapKind prog w K}{A:Jj}{E:Jf->Je->Prop}{s:Je}
theorem iG{d a:Jg}{xs:List (K×Jg×Jf)}{Q:Jf->Je->Prop}(u:knd.room A)(h:knd.is s.heap k a)(m:s.heap.DictOfH knd d xs)
  (N:∀p,YW xs k=Ja p->Q p.2 {s with toks:=s.toks+knd.draws k})
  (Y:YW xs k=Jb->∀S,S.DictOfH knd d (xs++[(k,a,v)])->KM d s.heap S->Q v {s with heap:=S,toks:=s.toks+knd.draws k})
  (hsz:xs.length<=JJ):Jh (Jt prog w) A (dictSetDefault d (.ref a) v) Q E s:=by
 obtain⟨o,U,I,T,c,q,O,i,g⟩:=m;unfold dictSetDefault
 try with_reducible refine YJ ?_
 refine YG<|knd.pyHash u h ?_;refine YG<|wpAny_dictFind_heap (s:={s with toks:=s.toks+knd.draws k}) u h T q O i g ?_ ?_
 ·intro n;have t:k∉xs.map (·.1):=not_mem_keys_of_get n;refine YG (wpAny_rule (YG (wpAny_updateDictKeys (hz:=by have e:=J7 O;exact zle (QU e) hsz) (s:={s with toks:=s.toks+knd.draws k}) T q (YH (Y (atKey_none_of_get n) _ ⟨_,_,I+1,QY _ T (Obj.isFreed_of_dict (Obj.data_mapDictKeys q _)),
   c.mapDictKeys _,Obj.data_mapDictKeys q _,?_,?_,?_⟩ (KM.update ..))))))
  ·simp[O,JL]
  ·intro x hx
   rcases Qr.mp hx with hx|hx
   ·exact knd.keeps (i x hx) T q<|KM.update ..
   ·simp only[Qj] at hx;subst hx;exact knd.keeps h T q<|KM.update ..
  ·rw[QD,Qu];refine⟨g,by simp,?_⟩;intro x hx y W;simp only[Qo,WG,Qj] at W;subst W;exact λe=>t<|e▸hx
 ·intro j p H;refine YG<|wpAny_dictEntries (s:={s with toks:=s.toks+knd.draws k}) T q ?_;rw[entry_at O j,H];exact YG<|wpAny_rule (YH<|N p (atKey_of_get g H))
theorem j6{d a:Jg}{xs:List (K×Jg×Jf)}{Q:Jf->Je->Prop}(u:knd.room A.in1)(e:knd.is s.heap k a)(q:(d==JC)=Jd)(m:s.heap.DictOfH knd d xs)
  (N:∀p,YW xs k=Ja p->Q p.2 {s with toks:=s.toks+knd.draws k})
  (Y:YW xs k=Jb->∀h,h.DictOfH knd d (xs++[(k,a,v)])->KM d s.heap h->Q v {s with heap:=h,toks:=s.toks+knd.draws k})
  (hsz:xs.length<=JJ):Jh (Jt prog w) A (call (.builtin "dict.setdefault") [.ref d,.ref a,v]) Q E s:=by
 refine YM F.slot_dict_setdefault m.typeIs F.entry_dict_setdefault ?_<|F.args_dict_setdefault_3 _ _ _;unfold Builtin.«dict.setdefault»;refine YG ?_;unfold Builtin.Dict.keyAndDefault;refine YG<|wpAny_notOrdered_dict m.typeIs ?_;show Jh _ _ (pure (d,Value.ref a,Ja v)) _ _ s;refine YH ?_;refine wn (c:=(d==JC)=Jc) (by rw[q];exact QC) ?_;exact YG<|iG u e m (λp D=>YH ⟨_,rfl,N p D⟩) (λo h n H=>YH ⟨_,rfl,Y o h n H⟩) hsz
def RawD(h:Ji)(d:Jg)(es:Array JN)(ep:Nat):Prop:=∃o,h.get? d=Ja o/\o.ExactDict/\o.data= .dict es ep
theorem RawD.typeIs{d:Jg}(x:RawD s.heap d es ep):s.TypeIs (.ref d) "dict":=by obtain⟨o,T,h,o0⟩:=x;exact⟨o,T,h.1⟩
theorem RawD.at{h S:Ji}{d:Jg}(x:RawD h d es ep)(k:∀o,h.get? d=Ja o->S.get? d=Ja o):RawD S d es ep:=by obtain⟨o,T,r⟩:=x;exact⟨o,k o T,r⟩
theorem pO{d:Jg}{es:Array JN}{Q:Jf->Je->Prop}(v:(d==JC)=Jd)(m:RawD s.heap d es ep)
  (X:Q (.ref s.heap.objs.size) {s with heap:=s.heap.push {cls:= .type "dict_keyiterator",data:= .fields #[.ref d,.int 0 0,.int es.size 0,.int ep 0]}}):
  Jh (Jt prog w) A (YQ<|.ref d) Q E s:=by
 obtain⟨o,a,c,h⟩:=id m;have T:s.TypeIs (.ref d) "dict":=m.typeIs;refine wpAny_pyIter_slot T F.slot_dict_iter<|YM F.slot_dict_iter T F.entry_dict_iter ?_ (F.args_dict_iter_1 _);unfold Builtin.«dict.__iter__»;refine YG ?_;unfold Builtin.Dict.dictSlotNone;refine YG<|wpAny_notOrdered_dict T ?_;show Jh _ _ (pure<|Value.ref d) _ _ s;refine YH ?_;show Jh _ _ (Builtin.Dict.showsAll d>>=_) _ _ s;unfold Builtin.Dict.showsAll;refine YG<|wn (by rw[v];exact QC) (YH ?_);refine YG<|wpAny_dictEntries a h ?_;refine YG<|wpAny_dictEpoch a h ?_;refine YG<|wpAny_newObj_type (YH ⟨_,rfl,"dict_keyiterator",_,⟨_,QK _ rfl,rfl⟩,F.slot_dict_keyiterator_next.lookup,?_⟩)
 simpa [Jx] using X
theorem kI{t d:Jg}{es:Array JN}{Q:Option Jf->Je->Prop}(U:A.handled=Jb)(h:s.heap.IsKeyIter t d i es.size ep)(C:RawD s.heap d es ep)
  (q:∀e,es[i]? =Ja e->∀S,S.IsKeyIter t d (i+1) es.size ep->KM t s.heap S->Q (Ja e.key) {s with heap:=S})
  (p:es[i]? =Jb->∀S,Heap.ExtBut t s.heap S->Q Jb {s with heap:=S}):Jh (Jt prog w) A (pyNext<|.ref t) Q E s:=by
 obtain⟨o,x,Z,v⟩:=id h;obtain⟨n,Y,W,I⟩:=id C;unfold pyNext;refine YG (wpAny_attempt (wpAny_callSpecial?_slot (name:=Qb "__next__") h.typeIs F.slot_dict_keyiterator_next
  (YM F.slot_dict_keyiterator_next h.typeIs F.entry_dict_keyiterator_next ?_ (F.args_dict_keyiterator_next_1 _))))
 refine YG<|YH ?_;refine YG ?_;refine YG ?_;refine YG<|wpAny_typeNameOfWhole_keyiter h.typeIs (YH ?_);refine YG<|wpAny_fieldsOf x v ?_;refine wn (c:=(Value.ref d==Value.none)=Jc) QC ?_;refine YG<|YH ?_;refine YG<|wpAny_dictEntries Y I ?_;refine wn (c:=((es.size:Int) !=es.size)=Jc) (by simp) ?_;refine YG<|YH ?_;refine YG<|wpAny_dictEpoch Y I ?_;refine wn (c:=((ep:Int) !=ep)=Jc) (by simp) ?_;refine YH ?_;by_cases N:i<es.size
 ·have u:(if(i:Int)<0 then Jb else es[(i:Int).toNat]?)=Ja es[i]:=(Y9<|KI.mpr (QS i)).trans (Kk N);dsimp only;rw[u];refine YG ?_;refine YG<|wpAny_typeNameOfWhole_keyiter h.typeIs (YH ?_);refine YG<|wpAny_isOneOf_keyiter h.typeIs ?_;show Jh _ _ (setField (.ref t) 1 (Jx<|(i:Int)+1)>>=_) _ _ s;refine YG<|wpAny_setField x v (by simp) ?_;have l:(s.heap.update t (Obj.mapFields (·.setIfInBounds 1 (Jx<|(i:Int)+1)))).IsKeyIter t d (i+1) es.size ep:=
   ⟨_,QY _ x<|Obj.isFreed_of_fields (Obj.data_mapFields v _),(Obj.cls_mapFields ..).trans Z,by rw[Obj.data_mapFields v];simp[Jx]⟩
  refine YG<|YJ ?_;refine YG (wpAny_isOneOf_keyiter (s:={s with heap:=s.heap.update t (Obj.mapFields (·.setIfInBounds 1 (Jx<|(i:Int)+1)))}) l.typeIs ?_);show Jh _ _ (pure es[i].key) _ _ _;exact YH<|YH ⟨_,rfl,YH<|q _ (Kk N) _ l (KM.update ..)⟩
 ·have g:es.size<=i:=Kc.mp N;have u:(if(i:Int)<0 then Jb else es[(i:Int).toNat]?)=Jb:=(Y9<|KI.mpr (QS i)).trans (Yi g);dsimp only;rw[u];refine YG ?_;refine YG<|wpAny_typeNameOfWhole_keyiter h.typeIs (YH ?_);refine YG<|wpAny_setField (i:=0) x v (by simp) ?_;refine YG ?_;unfold newExc newTuple;refine YG<|wpAny_newObj_type ?_ (by size_fits);refine YG (m:=firstArgMember _ _)<|wpAny_of_eq (a:=Value.none) (by first|rfl|(simp only[firstArgMember];rfl)) ?_;refine JB ?_ (by size_fits);unfold raiseNew;refine YG<|wpAny_handled ?_;rw[show A.in1.handled=Jb from U];refine YG<|YH (wpAny_throw ?_);refine YG<|wpAny_isInstance (T:="StopIteration") (b:=Jc) ⟨_,QK _ rfl,rfl⟩ isSubtype_stop ?_;exact YH<|p (Yi g) _ (((KM.update ..).extBut.push _).push _)
theorem rY(U:A.handled=Jb)(g d:Jg)(n:d≠g)(es:Array JN)(ep:Nat):
  Walks prog w A g [g,d] [g] es.size (λi v=>∃e,es[i]? =Ja e/\v=e.key) (λi h=>h.IsKeyIter g d i es.size ep/\RawD h d es ep) where
 sub:=λb R=>by simp at R;simp[R]
 frame:=λo0 o0 o0 t k=>⟨by obtain⟨o,T,r⟩:=t.1;exact⟨o,k g (by simp) o T,r⟩,t.2.at λo e=>k d (by simp) o e⟩
 item:=λi s Q E V t X=>kI U t.1 t.2 (λe O S j H=>X _ S s.toks ⟨e,O,rfl⟩ ⟨j,t.2.at λo x=>H.extBut d o n x⟩ λb o R x=>H.extBut b o (λh=>R<|by simp[h]) x)
  (λq=>by exact sn<|(Kk V).symm.trans q)
 done:=λs Q E t X=>kI U t.1 t.2 (λe O=>by simp at O) λo0 S H=>X S s.toks λb o R x=>H b o (λh=>R<|by simp[h]) x
 self:=λo0 o0 o0 o0 t X=>by
  obtain⟨o,T,c,W⟩:=t.1;exact wpAny_pyIter_slot ⟨o,T,c⟩ F.slot_dict_keyiterator_iter<|YM F.slot_dict_keyiterator_iter ⟨o,T,c⟩ F.entry_dict_keyiterator_iter (YH ⟨_,rfl,_,_,⟨o,T,c⟩,F.slot_dict_keyiterator_next.lookup,X⟩) (F.args_dict_keyiterator_iter_1 _)
theorem wO{d:Jg}{es:Array JN}(l:(d==JC)=Jd):W.KdlSrc prog w "dict" d d es.size (λi v=>∃e,es[i]? =Ja e/\v=e.key) (λh=>RawD h d es ep) where
 type:=λo0 m=>m.typeIs
 there:=λo0 m=>by obtain⟨o,T,o0⟩:=m;exact⟨QO T,QO T⟩
 keep:=λo0 o0 m k=>m.at λo e=>k d (.inl rfl) o e
 notList:=by decide
 notTuple:=by decide
 hint:=λo0 o0 o0 o0 m q=>W.kdl_hint_dict m.typeIs q
 iter:=λo0 o0 U m=>⟨_,_,(λo0 o0 q=>pO l m q),rY U _ d (by obtain⟨o,T,o0⟩:=m;exact WZ<|QO T) es ep,⟨⟨_,QK _ rfl,rfl,rfl⟩,m.at λo e=>Qz _ e⟩⟩
end
section
open PySem.W
noncomputable abbrev bmE:List Jf:=[.type "ValueError",.type "Exception",.type "BaseException",.type "object"]
theorem n8(T:J0 h bmE bm)(self:Jf):refuseLoop self "__setattr__" bm=pure ():=by
 induction T with
 |base=>exact F.store_ValueError.passes self
 |own _ _ _ _ i=>rw[refuseLoop_ref];exact i
section
variable{prog:Jn}{w:Jm}{A:Jj}{E:Jf->Je->Prop}{h:Ji}{g:Array GenState}{d:Drawn}{t:Nat}{os:OsState}
variable{nm q:Jq}{C N x:Jg}{bs bm:List Jf}{sn:List Jq}{sub:List Jf}{ab:Bool}{col:Option Bool}{dd:Option Jg}{k0 k1 k2 k3 k5:Option Jf}{newId:String}
 {mA:Jq->Option Jf} {name:Jq} {v:Jf}
structure Stored(h h':Ji)(x C:Jg)(name:Jq)(v:Jf)(mA:Jq->Option Jf):Prop where
 inst:h'.Inst x C (λy=>if y=name then Ja v else mA y)
 keep:∀b o,b≠x->(∀o₀ dx,h.get? x=Ja o₀->o₀.dict=Ja dx->b≠dx)->h.get? b=Ja o->h'.get? b=Ja o
 obj:∀o₀,h.get? x=Ja o₀->∃o₁,A5 (h'.get? x=Ja o₁) (o₁.cls=o₀.cls) (o₁.data=o₀.data) (o₁.slots=o₀.slots) (∀dx,o₀.dict=Ja dx->o₁.dict=Ja dx)
 fresh:∀o₁ dx,h'.get? x=Ja o₁->o₁.dict=Ja dx->h.get? dx=Jb\/∃o₀,h.get? x=Ja o₀/\o₀.dict=Ja dx
theorem te{id o nm:String}{self:Jf}{Q:Unit->Je->Prop}{E:Jf->Je->Prop}(k:builtinKind id=Ja .slot)(H:splitId id=Ja (o,nm))(T:argsOk id ⟨self::rest,[]⟩)
  (hi:Jh M A (isInstance self<|.type o) (λb s'=>b=Jc/\Q () s') E s):Jh M A (Y1 id ⟨self::rest,[]⟩) Q E s:=by
 simp only[Y1,k,H];refine YG (YI hi (λb s' h=> ?_) λo0 o0 h=>h);obtain⟨rfl,h⟩:=h;refine wn QC ?_
 induction i:Manifest.signature? id with
 |none=>exact YH h
 |some y=>
  simp only[argsOk,i] at T;exact wpAny_of_eq (a:=()) T h
theorem yA{tk:Tok}{Q:Fin->Je->Prop}{ns:List Jq}(T:J0 h bmE bm)
  (hC:h.get? C=Ja (JE nm q C N bs bm Jc sn sub ab col dd k0 k1 k2 k3 k5 newId))(L:Looks (Jt prog w) h (JY (.ref C) name) Jb)
  (I:h.Inst x C mA)(hq:∀R G,Stored h R x C name v mA->Q (.done<|.ret .none) ⟨R,g,d,G,os⟩)(hw:Within mA ns)(hsz:ns.length<=JJ):
  Jh (Jt prog w) A (Builtin.«object.__setattr__» ⟨[.ref x,.str name tk,v],[]⟩) Q E ⟨h,g,d,t,os⟩:=by
 obtain⟨o,hx,hc,X,hd⟩:=I;have a:=n8 T<|.ref x;unfold Builtin.«object.__setattr__»
 repeat (first|rw[refuse_eq]|(rw[refuseLoop_ref,a])|(with_reducible refine Jy hx ?_;rw[hc])|with_reducible refine wpAny_mroOf_exc hC ?_|with_reducible refine L.at ?_|wp_step)
 rcases hd with⟨u,J⟩|⟨l,K,Z,ac⟩
 ·rw[u,Y9 (by simp[typeHasDict])]
  split
  ·rename_i W
   cases W
  split
  ·rename_i c W
   exact absurd W<|X c
  ·have j:(h.push {cls:= .type "dict",data:= .dict #[]}).get? x=Ja o:=Qz _ hx;have s:x≠h.objs.size:=WZ<|QO hx;refine YG<|wpAny_alloc' ?_;refine YG<|wpAny_update' j ?_;refine YH ?_;have V:((h.push {cls:= .type "dict",data:= .dict #[]}).update x λo=>{cls:=o.cls,dict:=Ja h.objs.size,data:=o.data,slots:=o.slots}).get? h.objs.size
     =Ja {cls:= .type "dict",data:= .dict #[]}:=
    (Heap.get?_update_ne _ _ _ _ s.symm).trans (Heap.get?_push_at rfl rfl)
   have O:((h.push {cls:= .type "dict",data:= .dict #[]}).update x λo=>{cls:=o.cls,dict:=Ja h.objs.size,data:=o.data,slots:=o.slots}).Ns h.objs.size (λo0=>Jb):=
    ⟨_,#[],_,V,rfl,λe he=>absurd he<|by simp,λo0=>rfl⟩
   show Jh _ _ (Builtin.ObjectAttr.storeInDict h.objs.size (.str name tk) name v) _ _ _;unfold Builtin.ObjectAttr.storeInDict Builtin.ObjectAttr.newKeyGuard;refine YG<|YH (YG<|wpAny_nsSet1 (Heap.Ns1.of_empty O) λR n H=> ?_);obtain⟨oD,Y,M,S,D,i⟩:=n.count<|Within.cons name v Within.nil;refine YG<|wpAny_lookBehind S (by rw[D];exact pastItsLine_dict<|Qn i (by rw[KU,Wv,JU];decide)) ?_
   wp_walk
   have m:R.get? x=Ja {cls:=o.cls,dict:=Ja h.objs.size,data:=o.data,slots:=o.slots}:= ?_;refine hq R _ ⟨⟨{cls:=o.cls,dict:=Ja h.objs.size,data:=o.data,slots:=o.slots},m,hc,X,.inr ⟨h.objs.size,rfl,s.symm,?_⟩⟩,(λb ob aa o0 B=> ?_),
    (λU k=>by obtain rfl:o=U:=Option.some.inj (hx.symm.trans k);exact⟨_,m,rfl,rfl,rfl,λl e=>by rw[u] at e;cases e⟩),λp l f F=>by rw[m] at f;cases f;cases F;exact .inl (WI (Qy _))⟩
   ·obtain⟨o',es,ep,f,F,e3,eu,e4⟩:=n;exact⟨o',es,ep,f,F,e3,eu,λy=>by rw[e4 y];by_cases hy:y=name<;>simp[hy,J]⟩
   ·exact(H.2 b<|WZ (QO B)).trans ((Heap.get?_update_ne _ _ _ _ aa).trans (Qz _ B))
   ·refine(H.2 x s).trans (QY _ j ?_);have P:=(Heap.get?_some_iff.mp hx).2;obtain⟨oc,od,r,ad⟩:=o
    rcases r with⟨⟩<;>first|rfl|exact P
 ·rw[K];refine YH ?_;show Jh _ _ (Builtin.ObjectAttr.storeInDict l (.str name tk) name v) _ _ _;unfold Builtin.ObjectAttr.storeInDict Builtin.ObjectAttr.newKeyGuard;refine YG<|YH (YG<|wpAny_nsSet1 ac λR n H=> ?_);obtain⟨oD,Y,M,S,D,i⟩:=n.count<|Within.cons name v hw;refine YG (wpAny_lookBehind S (by rw[D];exact pastItsLine_dict<|Qn i (by rw[KU];exact Kw hsz)) ?_)
  wp_walk
  refine hq R _ ⟨⟨o,(H.2 x Z.symm).trans hx,hc,X,.inr ⟨l,K,Z,n⟩⟩,(λb ob o0 z B=> ?_),
   (λU k=>⟨U,(H.2 x Z.symm).trans k,rfl,rfl,rfl,λo0 e=>e⟩),λp l f F=> .inr ⟨p,(H.2 x Z.symm).symm.trans f,F⟩⟩
  exact(H.2 b<|z o l hx K).trans B
theorem zI{o:Jp}{Q:Unit->Je->Prop}(T:J0 h bmE bm)
  (i:h.get? C=Ja (JE nm q C N bs bm Jc sn sub ab col dd k0 k1 k2 k3 k5 newId))(hx:h.get? x=Ja o)(Z:o.cls= .ref C)(z:Q () ⟨h,g,d,t,os⟩):
  Jh M A (Y1 "object.__setattr__" ⟨[.ref x,n,v],[]⟩) Q E ⟨h,g,d,t,os⟩:=by
 have c:(Value.ref C::bm).contains (.type "object")=Jc:=by rw[KZ,T.hasType F.store_ValueError.hasOwner,Bool.or_true]
 have a:=F.store_ValueError.args (.ref x) n v;have k:=F.store_ValueError.kind;have s:=F.store_ValueError.split;refine te (id:="object.__setattr__") (self:= .ref x) (rest:=[n,v]) k s a ?_;unfold isInstance
 repeat (first|(with_reducible refine Jy hx ?_;rw[Z])|(with_reducible refine YV i ?_;rw[c])|wp_step)
 exact⟨rfl,z⟩
theorem rS{Q:Unit->Je->Prop}{ns:List Jq}(T:J0 h bmE bm)
  (M:h.get? C=Ja (JE nm q C N bs bm Jc sn sub ab col dd k0 k1 k2 k3 k5 newId))(L:Looks (Jt prog w) h (JY (.ref C) name) Jb)
  (s:Looks (Jt prog w) h (JY (.ref C) "__setattr__") (Ja<|.builtin "object.__setattr__"))(I:h.Inst x C mA)
  (z:∀W k,Stored h W x C name v mA->Q () ⟨W,g,d,k,os⟩)(H:Within mA ns)(hsz:ns.length<=JJ):
  Jh (Jt prog w) A (setAttr (.ref x) name v) Q E ⟨h,g,d,t,os⟩:=by
 obtain⟨o,hx,c,o0⟩:=id I;have f:=F.store_ValueError.slot.bind<|.ref x;unfold setAttr callSpecial? specialOf
 repeat (any_goals (first|assumption|(with_reducible refine Jy hx ?_;rw[c])|with_reducible refine s.at ?_|wp_step))
 refine codeAny_call_builtin F.store_ValueError.slot.plain F.store_ValueError.entry<|zI T M hx c ?_;refine yA T M L I (λW k S=> ?_) H hsz
 repeat (any_goals (first|assumption|wp_step))
 exact z W k S
end
end
theorem cps{G:Prop}(h:(G->False)->False):G:=Classical.byContradiction h
theorem bnx{P:Prop}(h:Jd=Jc):P:=by exact ft h
theorem onx{P:Prop}{L:Type}{x:L}(h:(Jb:Option L)=Ja x):P:=by exact ns h
set_option genCtorIdx false in
inductive PV where
 |none
 |bool(b:Bool)
 |int(i:Int)
 |str(s:String)
 |tup(l:List PV)
 |ref(a:Jg)
 |scr(l:List Int)
noncomputable abbrev PV.ctorIdx(x:PV):Nat:=PV.casesOn x 0 (λo0=>1) (λo0=>2) (λo0=>3) (λo0=>4) (λo0=>5) (λo0=>6)
set_option genCtorIdx false in
inductive PO where
 |list(l:List PV)
 |dict(ks:List (List KA))(l:List PV)
 |fd(c:String)(fs:List PV)
 |inst(d:Jg)
noncomputable abbrev PO.ctorIdx(x:PO):Nat:=PO.casesOn x (λo0=>0) (λo0 o0=>1) (λo0 o0=>2) (λo0=>3)
noncomputable def PO.fixed:PO->Bool
 | .fd .. | .inst _=>Jc
 |_=>Jd
abbrev PH:=Jg->Option PO
noncomputable def PH.set(σ:PH)(a:Jg)(o:PO):PH:=λb=>if b=a then Ja o else σ b
theorem PH.set_same(σ:PH)(a:Jg)(o:PO):(σ.set a o) a=Ja o:=Ua rfl
theorem PH.set_ne(σ:PH)(o:PO)(h:b≠a):(σ.set a o) b=σ b:=Y9 h
abbrev Rho:=List<|String×Option PV
noncomputable def Rho.get:Rho->String->Option PV
 |[],_=>Option.none
 |(y,v)::r,x=>if y=x then v else Rho.get r x
noncomputable def Rho.put:Rho->String->PV->Rho
 |[],_,_=>[]
 |(y,o)::r,x,v=>if y=x then(y,Ja v)::r else(y,o)::Rho.put r x v
theorem Rho.get_c(y:String)(v:Option PV)(r:Rho)(x:String):Rho.get ((y,v)::r) x=if y=x then v else Rho.get r x:=rfl
theorem Rho.put_c(y:String)(o:Option PV)(r:Rho)(x:String)(v:PV):Rho.put ((y,o)::r) x v=if y=x then(y,Ja v)::r else(y,o)::Rho.put r x v:=rfl
noncomputable def Rho.puts:Rho->List String->List PV->Rho
 |ρ,x::s,v::w=>Rho.puts (ρ.put x v) s w
 |ρ,_,_=>ρ
set_option genCtorIdx false in
inductive BOp where
 |add|sub|mul|fdiv|mod|pow(u:Unit)
set_option genCtorIdx false in
inductive COp where
 |eq|ne|lt|le|gt(u:Unit)|ge|in_|nin
set_option genCtorIdx false in
inductive BI where
 |len|all|sum|int|list|min|sorted|dict(u:Unit)
inductive Me where
 |append|remove
inductive IK where
 |val|range|enum
set_option genCtorIdx false in
inductive Tg where
 |name(x:String)
 |tup(l:List String)
noncomputable abbrev Tg.ctorIdx(x:Tg):Nat:=Tg.casesOn x (λo0=>0) (λo0=>1)
set_option genCtorIdx false
inductive E where
 |none
 |bool(b:Bool)
 |int(i:Int)
 |str(s:String)
 |loc(x:String)
 |glob(x:String)
 |bin(op:BOp)(a b:E)
 |not_(a:E)
 |and_(a b:E)
 |or_(a b:E)
 |isNone(a:E)
 |notNone(a:E)
 |cmp(op:COp)(a b:E)
 |cmp2(a:E)(o1:COp)(b:E)(o2:COp)(c:E)
 |tup(l:List E)
 |list(l:List E)
 |sub(a i:E)
 |upto(a hi:E)
 |from_(a lo:E)
 |comp(elt:E)(tg:Tg)(k:IK)(it:List E)
 |compIf(elt:E)(tg:Tg)(k:IK)(it:List E)(cond:E)
 |call(f:String)(args:List E)
 |bi(b:BI)(args:List E)
 |isi(a:E)(ts:List String)
 |meth(o:E)(m:Me)(args:List E)
 |dict0
 |get(a k:E)
 |sd(a k:E)
 |attr(x f:String)
 |mcall(c f:String)(o:E)(args:List E)
inductive S where
 |assign(tg:Tg)(e:E)
 |setIdx(o i e:E)
 |expr(e:E)
 |ret(e:E)
 |if_(t:E)(b o:List S)
 |for_(tg:Tg)(k:IK)(it:List E)(b:List S)
 |while_(t:E)(b:List S)
 |raise(c:String)(args:List E)
 |try1(b:List S)(c:String)(h:List S)
set_option genCtorIdx true
set_option genCtorIdx false in
inductive Fl where
 |next
 |ret(v:PV)
structure PX where
 c:String
 fs:List PV
abbrev Post:=PV->PH->Prop
abbrev XPost:=PX->PH->Prop
abbrev Cl:=String->List PV->PH->Post->XPost->Prop
structure Gx where
 glob:String->Option PV
 sub:String->String->Bool
 full:Bool
 fn:String->Bool
 calm:Bool
 cs:List String
 mks:List String
 inis:List String
 flds:String->List String
noncomputable def stat(s:List String):Bool:=s.length==1&&s.all λt=>["int","bool","list","tuple","dict"].contains t
noncomputable def Gx.un(G:Gx):Gx:={G with calm:=Jd}
noncomputable def lim:Nat:=1000000
def wnew(o:PO)(σ:PH)(Q:Post):Prop:=∀a,σ a=Jb->Q (.ref a) (σ.set a o)
noncomputable def kaOf:PV->Option KA
 | .int i=>Ja<|.n i
 | .str s=>Ja<|.t s
 |_=>Jb
noncomputable def kasOf:List PV->Option (List KA)
 |[]=>Ja []
 |p::r=>(kaOf p).bind λk=>(kasOf r).map (k:: ·)
def keyOf:PV->Option (List KA)
 | .tup l=>kasOf l
 |_=>Jb
noncomputable def KA.pv:KA->PV
 | .n i=> .int i
 | .t s=> .str s
def keyPV(k:List KA):PV:= .tup (k.map KA.pv)
noncomputable def kidx:List (List KA)->List KA->Option Nat
 |[],_=>Jb
 |k::r,x=>if k=x then Ja 0 else(kidx r x).map (· +1)
def klook(ks:List (List KA))(l:List PV)(k:List KA):Option PV:=(kidx ks k).bind λj=>l[j]?
def kset(ks:List (List KA))(l:List PV)(k:List KA)(v:PV):PO:=match kidx ks k with
 |some j=> .dict ks (l.set j v)
 |none=> .dict (ks++[k]) (l++[v])
def Okl(l:List PV):Prop:=l.length<=lim
def wlist(l:List PV)(σ:PH)(Q:Post):Prop:=Okl l/\wnew (.list l) σ Q
mutual
noncomputable def Rd(σ:PH):YR->PV->Prop
 | .none,v=>v= .none
 | .bool b,v=>v= .bool b
 | .int i,v=>v= .int i
 | .str x,v=>∃s,v= .str s/\x=Qb s
 | .tuple ds,v=>∃l,v= .tup l/\Rds σ ds l
 | .list ds,v=>X2 λa l=>A3 (v= .ref a) (σ a=Ja (.list l))<|Rds σ ds l
 | .dict _,_=>False
noncomputable def Rds(σ:PH):List YR->List PV->Prop
 |[],l=>l=[]
 |d::ds,l=>X2 λp ps=>A3 (l=p::ps) (Rd σ d p)<|Rds σ ds ps
end
def okD(d:YR):Prop:=d.canLay0=Jc/\d.depth<=50
inductive Wit{α β:Type}(f:α->β)(v:β)(K:α->Prop):Prop
 |mk (x:α) (e:v=f x) (k:K x):Wit f v K
inductive WitL(σ:PH)(K:List PV->Prop)(v:PV):Prop
 |mk (a:Jg) (l:List PV) (e:v= .ref a) (s:σ a=Ja (.list l)) (k:K l):WitL σ K v
noncomputable def onInt(K:Int->Prop):PV->Prop
 | .int x=>K x
 |_=>False
noncomputable def onO(K:List PV->Prop):Option PO->Prop
 |some (.list l)=>K l
 |_=>False
def onL(σ:PH)(K:List PV->Prop):PV->Prop
 | .ref a=>onO K<|σ a
 |_=>False
noncomputable def onDO(K:List (List KA)->List PV->Prop):Option PO->Prop
 |some (.dict k l)=>K k l
 |_=>False
def onD(σ:PH)(K:List (List KA)->List PV->Prop):PV->Prop
 | .ref a=>onDO K<|σ a
 |_=>False
noncomputable def oK(K:List KA->Prop):Option (List KA)->Prop
 |some k=>K k
 |none=>False
theorem iQ{K:List KA->Prop}(h:oK K o):Wit Ja o K:=by
 induction o with
 |none=>exact h.elim
 |some v=>exact⟨v,rfl,h⟩
inductive WitD(σ:PH)(K:List (List KA)->List PV->Prop)(v:PV):Prop
 |mk (a:Jg) (ks:List (List KA)) (l:List PV) (e:v= .ref a) (s:σ a=Ja (.dict ks l)) (k:K ks l):WitD σ K v
theorem kH{K:List (List KA)->List PV->Prop}(h:onDO K v):∃ks l,v=Ja (.dict ks l)/\K ks l:=by
 induction v with
 |none=>exact h.elim
 |some o=>induction o with
  |dict ks l=>exact⟨ks,l,rfl,h⟩
  |_=>exact h.elim
theorem iC{K:List (List KA)->List PV->Prop}(h:onD σ K v):WitD σ K v:=by
 induction v using PV.casesOn with
 |ref a=>obtain⟨k,l,e,h⟩:=kH (show onDO K (σ a) from h);exact⟨a,k,l,rfl,e,h⟩
 |_=>exact h.elim
theorem dw{K:Int->Prop}(h:onInt K v):Wit PV.int v K:=by
 induction v using PV.casesOn with
 |int x=>exact⟨x,rfl,h⟩
 |_=>exact h.elim
theorem gF{K:List PV->Prop}(h:onO K v):∃l,v=Ja (.list l)/\K l:=by
 induction v with
 |none=>exact h.elim
 |some o=>induction o with
  |list l=>exact⟨l,rfl,h⟩
  |_=>exact h.elim
theorem eN{K:List PV->Prop}(h:onL σ K v):WitL σ K v:=by
 induction v using PV.casesOn with
 |ref a=>obtain⟨l,e,h⟩:=gF (show onO K (σ a) from h);exact⟨a,l,rfl,e,h⟩
 |_=>exact h.elim
theorem hP{K:List PV->Prop}(e:σ a=Ja (.list l)):onL σ K (.ref a)=K l:=by
 show onO K (σ a)=K l;rw[e];rfl
noncomputable def enumL:Nat->List PV->List PV
 |_,[]=>[]
 |i,x::r=> .tup [.int (i:Nat),x]::enumL (i+1) r
def src(k:IK)(vs:List PV)(σ:PH)(K:List PV->(PH->Prop)->Prop):Prop:=
 match k with
 | .val=>match vs with
  |[.tup l]=>K l λo0=>True
  |[.ref a]=>onL σ (λl=>K l λT=>T a=Ja (.list l))<|.ref a
  |_=>False
 | .range=>match vs with
  |[v]=>onInt (λn=> -1000000<n/\K ((Qc n.toNat).map λ(i:Nat)=> .int i) λo0=>True) v
  |_=>False
 | .enum=>match vs with
  |[v]=>onL σ (λl=>K (enumL 0 l) λT=>onL T (λw=>w=l) v) v
  |_=>False
noncomputable def bindT:Tg->PV->Rho->Option Rho
 | .name x,v,ρ=>Ja<|ρ.put x v
 | .tup s,.tup w,ρ=>if w.length=s.length then Ja (ρ.puts s w) else Jb
 |_,_,_=>Jb
noncomputable def Tg.isT:Tg->Bool
 | .name _=>Jd
 | .tup _=>Jc
noncomputable def Tg.names:Tg->List String
 | .name x=>[x]
 | .tup s=>s
noncomputable def blank(tg:Tg)(ρ:Rho):Rho:=(".0",Jb)::((tg.names.map λx=>(x,Jb))++ρ)
def bindC(tg:Tg)(v:PV)(ρ:Rho):Option Rho:=bindT tg v<|blank tg ρ
noncomputable def lenO:Option PO->Option Nat
 |some (.list l)=>Ja l.length
 |_=>Jb
theorem uK(h:lenO o=Ja k):∃l,o=Ja (.list l)/\l.length=k:=by
 rcases o with o0|o
 ·exact ns h
 ·induction o with
  |list l=>exact⟨l,rfl,sj h⟩
  |_=>exact ns h
def plen(σ:PH):PV->Option Nat
 | .ref a=>lenO<|σ a
 | .tup l=>Ja l.length
 | .scr l=>Ja l.length
 |_=>Jb
noncomputable def place(n:Nat)(i:Int):Option Nat:=
 if 0<=i then(if i<n then Ja i.toNat else Jb) else(if 0<=i+n then Ja (i+n).toNat else Jb)
noncomputable def cut(n:Nat)(i:Int):Nat:=if 0<=i then min i.toNat n else(i+n).toNat
def psubL(l:List PV):PV->Option PV
 | .int k=>(place l.length k).bind λj=>l[j]?
 |_=>Jb
def psubO(i:PV):Option PO->Option PV
 |some (.list l)=>psubL l i
 |_=>Jb
def psub(σ:PH):PV->PV->Option PV
 | .ref a,i=>psubO i<|σ a
 | .tup l,.int k=>(place l.length k).bind λj=>l[j]?
 | .scr l,.int k=>((place l.length k).bind λj=>l[j]?).map .int
 |_,_=>Jb
noncomputable def dQ:List PV->Option (List Int)
 |[]=>Ja []
 | .int i::r=>(dQ r).map (i:: ·)
 |_=>Jb
noncomputable def fF:List PV->Option (List Bool)
 |[]=>Ja []
 | .bool i::r=>(fF r).map (i:: ·)
 |_=>Jb
def wadd(a b:PV)(σ:PH)(Q:Post):Prop:=
 match a with
 | .int x=>onInt (λy=>Q (.int (x+y)) σ) b
 | .ref x=>onL σ (λl=>onL σ (λm=>wlist (l++m) σ Q) b) (.ref x)
 |_=>False
def wbin(o:BOp)(a b:PV)(σ:PH)(Q:Post):Prop:=
 match o with
 | .add=>wadd a b σ Q
 | .sub=>onInt (λx=>onInt (λy=>Q (.int (x-y)) σ) b) a
 | .mul=>onInt (λx=>onInt (λy=>(x.natAbs<2^64\/y.natAbs<2^64)/\Q (.int (x*y)) σ) b) a
 | .fdiv=>onInt (λx=>onInt (λy=>y≠0/\y.natAbs<1073741824/\Q (.int (x.fdiv y)) σ) b) a
 | .mod=>onInt (λx=>onInt (λy=>y≠0/\Q (.int (x.fmod y)) σ) b) a
 | .pow _=>onInt (λx=>onInt (λy=>0<=y/\y<=1000/\x.natAbs<2^64/\Q (.int (x^y.toNat)) σ) b) a
def weq(a b:PV)(σ:PH)(Q:Bool->PH->Prop):Prop:=X2 λc d=>A5 (Rd σ c a) (Rd σ d b) (okD c) (okD d)<|Q (PyData.eqv c d) σ
def win(a b:PV)(σ:PH)(Q:Bool->PH->Prop):Prop:=onD σ (λi o0=>oK (λk=>Q (kidx i k).isSome σ) (keyOf a)) b\/onL σ (λl=>X2 λc s=>A5 (Rd σ c a) (Rds σ s l) (okD c) ((∀d∈s,okD d)) (Q (s.any λd=>PyData.eqv d c) σ)) b
def wrel(f:Int->Int->Bool)(a b:PV)(σ:PH)(Q:Bool->PH->Prop):Prop:=onInt (λx=>onInt (λy=>Q (f x y) σ) b) a
def wcmp(o:COp)(a b:PV)(σ:PH)(Q:Bool->PH->Prop):Prop:=
 match o with
 | .eq=>weq a b σ Q
 | .ne=>weq a b σ λr σ=>Q (!r) σ
 | .in_=>win a b σ Q
 | .nin=>win a b σ λr σ=>Q (!r) σ
 | .lt=>wrel (λx y=>decide (x<y)) a b σ Q
 | .le=>wrel (λx y=>decide (x<=y)) a b σ Q
 | .gt _=>wrel (λx y=>decide (x>y)) a b σ Q
 | .ge=>wrel (λx y=>decide (x>=y)) a b σ Q
noncomputable def on1(K:PV->Prop):List PV->Prop
 |[v]=>K v
 |_=>False
theorem wu{K:PV->Prop}(h:on1 K l):∃v,l=[v]/\K v:=by
 match l,h with
 |[v],h=>exact⟨v,rfl,h⟩
noncomputable def oBs(K:List Bool->Prop):Option (List Bool)->Prop
 |some bs=>K bs
 |none=>False
noncomputable def oIs(K:List Int->Prop):Option (List Int)->Prop
 |some is=>K is
 |none=>False
theorem qB{K:List Bool->Prop}(h:oBs K o):Wit Ja o K:=by
 induction o with
 |none=>exact h.elim
 |some bs=>exact⟨bs,rfl,h⟩
theorem kl{K:List Int->Prop}(h:oIs K o):Wit Ja o K:=by
 induction o with
 |none=>exact h.elim
 |some bs=>exact⟨bs,rfl,h⟩
noncomputable def oNat(K:Nat->Prop):Option Nat->Prop
 |some n=>K n
 |none=>False
theorem gA{K:Nat->Prop}(h:oNat K o):Wit Ja o K:=by
 induction o with
 |none=>exact h.elim
 |some n=>exact⟨n,rfl,h⟩
noncomputable def cV(K:Bool->Prop):PV->Prop
 | .bool x=>K x
 |_=>False
theorem lu{K:Bool->Prop}(h:cV K v):Wit PV.bool v K:=by
 induction v using PV.casesOn with
 |bool x=>exact⟨x,rfl,h⟩
 |_=>exact h.elim
def onS(σ:PH)(K:List PV->Prop):PV->Prop
 | .tup l=>K l
 | .ref a=>onO K<|σ a
 |_=>False
theorem vH{K:List PV->Prop}(h:onS σ K v):(∃l,v= .tup l/\K l)\/X2 λa l=>A3 (v= .ref a) (σ a=Ja (.list l)) (K l):=by
 induction v using PV.casesOn with
 |tup l=>exact .inl ⟨l,rfl,h⟩
 |ref a=>obtain⟨l,e,h⟩:=gF (show onO K (σ a) from h);exact .inr ⟨a,l,rfl,e,h⟩
 |_=>exact h.elim
noncomputable def lmin:List Int->Int
 |[]=>0
 |x::r=>r.foldl min x
def wMin(σ:PH)(Q:Post)(args:List PV):Prop:=on1 (onL σ λl=>oIs (λis=>is≠ []/\Q (.int (lmin is)) σ) (dQ l)) args
noncomputable def dK:List KA->Bool
 |[.n i,.n j]=>decide (0<=i/\i<8)&&decide (0<=j/\j<8)
 |_=>Jd
theorem i8(h:dK k=Jc):X2 λa b=>A3 (k=[.n ((a:Nat):Int),.n ((b:Nat):Int)]) (a<8) (b<8):=by
 rcases k with o0|⟨i,o0|⟨j,o0|⟨o0,o0⟩⟩⟩
 ·exact ft h
 ·rcases i with⟨⟩<;>exact ft h
 ·rcases i with i|o0
  ·rcases j with j|o0
   ·obtain⟨N,p⟩:=Qg.mp h;have N:=Y8 N;have p:=Y8 p;exact⟨i.toNat,j.toNat,by rw[WO N.1,WO p.1],(KT N.1).mpr N.2,(KT p.1).mpr p.2⟩
   ·exact ft h
  ·exact ft h
 ·rcases i with⟨⟩<;>first|exact ft h|(rcases j with⟨⟩<;>exact ft h)
def wbi(b:BI)(args:List PV)(σ:PH)(Q:Post):Prop:=
 match b with
 | .len=>on1 (λv=>oNat (λn=>n<=lim/\Q (.int n) σ) (plen σ v)) args
 | .all=>on1 (onL σ λl=>oBs (λbs=>Q (.bool (bs.all id)) σ) (fF l)) args
 | .sum=>on1 (onL σ λl=>oIs (λis=>Q (.int is.sum) σ) (dQ l)) args
 | .int=>on1 (cV λx=>Q (.int (if x then 1 else 0)) σ) args
 | .list=>on1 (λv=>onD σ (λks o0=>wlist (ks.map keyPV) σ Q) v\/onS σ (λl=>wlist l σ Q) v) args
 | .min=>wMin σ Q args
 | .sorted=>on1 (onL σ λl=>oIs (λis=>is.length<64/\∀js:List Int,js.Perm is->js.Pairwise (· <= ·)->wlist (js.map .int) σ Q) (dQ l)) args
 | .dict _=>on1 (onD σ λks l=>(ks≠ []/\ks.length<=lim/\∀k∈ks,dK k=Jc)/\wnew (.dict ks l) σ Q) args
noncomputable def isiO(G:Gx)(t:List String):Option PO->Option Bool
 |some (.list _)=>Ja<|t.contains "list"
 |_=>Jb
def isiV(G:Gx)(σ:PH)(v:PV)(t:List String):Option Bool:=
 match v with
 | .none=>Ja Jd
 | .str _=>Ja Jd
 | .bool _=>Ja (t.contains "bool"||t.contains "int")
 | .int _=>Ja<|t.contains "int"
 | .tup _=>Ja<|t.contains "tuple"
 | .ref a=>isiO G t<|σ a
 |_=>Jb
def wmeth(m:Me)(o:PV)(args:List PV)(σ:PH)(Q:Post):Prop:=
 match o with
 | .ref a=>onO (λl=>match m,args with
  | .append,[v]=>l.length<lim/\Q .none (σ.set a<|.list (l++[v]))
  | .remove,[v]=>X3 λc s j=>A6 (Rd σ c v) (Rds σ s l) (okD c/\∀d∈s,okD d) (l.length<=lim) (s.findIdx? (λd=>PyData.eqv d c)=Ja j)<|Q .none (σ.set a<|.list (l.eraseIdx j))
  |_,_=>False) (σ a)
 |_=>False
def recv(m:Me)(σ:PH)(v:PV):Prop:=
 match m with
 |_=>onL σ (λo0=>True) v
noncomputable def oR(K:Rho->Prop):Option Rho->Prop
 |some v=>K v
 |none=>False
theorem pU{K:Rho->Prop}(h:oR K o):Wit Ja o K:=by
 induction o with
 |none=>exact h.elim
 |some v=>exact⟨v,rfl,h⟩
noncomputable def gb(chk:PH->Prop)(tg:Tg)(ρ:Rho)(tst:Rho->PH->(Bool->PH->Prop)->Prop)(el:Rho->PH->Post->Prop):List PV->List PV->PH->(List PV->PH->Prop)->Prop
 |[],a,σ,K=>chk σ/\K a σ
 |x::s,a,σ,K=>chk σ/\oR (λh=>tst h σ λb m=>if b then el h m λv O=>gb chk tg ρ tst el s (a++[v]) O K else gb chk tg ρ tst el s a m K) (bindC tg x ρ)
noncomputable def oV(K:PV->Prop):Option PV->Prop
 |some v=>K v
 |none=>False
theorem jK{K:PV->Prop}(h:oV K o):Wit Ja o K:=by
 induction o with
 |none=>exact h.elim
 |some v=>exact⟨v,rfl,h⟩
noncomputable def oB(K:Bool->Prop):Option Bool->Prop
 |some v=>K v
 |none=>False
theorem sH{K:Bool->Prop}(h:oB K o):Wit Ja o K:=by
 induction o with
 |none=>exact h.elim
 |some v=>exact⟨v,rfl,h⟩
noncomputable def PV.isNone:PV->Bool
 | .none=>Jc
 |_=>Jd
def pP(f:List PV->List PV)(ok:Nat->Prop)(v:PV)(σ:PH)(Q:Post):Prop:=
 match v with
 | .ref a=>onO (λl=>Okl l/\wnew (.list (f l)) σ Q) (σ a)
 |_=>False
def wget(o:Option PV)(σ:PH)(Q:Post):Prop:=match o with
 |some v=>Q v σ
 |none=>wnew (.list []) σ Q
def wsd(A:PV)(σ:PH)(Q:Post)(I:PV):Prop:=match A with
 | .ref a=>onDO (λs l=>l.length<lim/\oK (λk=>match klook s l k with
  |some v=>Q v σ
  |none=>∀b,σ b=Jb->Q (.ref b) ((σ.set b (.list [])).set a (.dict (s++[k]) (l++[.ref b])))) (keyOf I)) (σ a)
 |_=>False
noncomputable def pfd(G:Gx)(f:String):Option PO->Option PV
 |some (.fd c s)=>((G.flds c).idxOf? f).bind λj=>s[j]?
 |_=>Jb
def pfld(G:Gx)(σ:PH)(f:String):Option PO->Option PV
 |some (.inst d)=>pfd G f<|σ d
 |_=>Jb
def pattr(G:Gx)(σ:PH)(f:String):PV->Option PV
 | .ref a=>pfld G σ f<|σ a
 |_=>Jb
noncomputable def onFd(c:String):Option PO->Prop
 |some (.fd K _)=>K=c
 |_=>False
def onIO(c:String)(σ:PH):Option PO->Prop
 |some (.inst d)=>onFd c<|σ d
 |_=>False
def onI(c:String)(σ:PH):PV->Prop
 | .ref a=>onIO c σ<|σ a
 |_=>False
theorem tN(h:onFd c o):∃f,o=Ja (.fd c f):=by
 induction o with
 |none=>exact h.elim
 |some p=>induction p with
  |fd K f=>obtain rfl:K=c:=h;exact⟨f,rfl⟩
  |_=>exact h.elim
theorem wg(h:onI c σ v):X3 λa d f=>A3 (v= .ref a) (σ a=Ja (.inst d)) (σ d=Ja (.fd c f)):=by
 induction v using PV.casesOn with
 |ref a=>
  replace h:onIO c σ (σ a):=h
  induction e:σ a with
  |none=>rw[e] at h;exact h.elim
  |some o=>induction o with
   |inst d=>
    rw[e] at h;obtain⟨f,q⟩:=tN (show onFd c (σ d) from h);exact⟨a,d,f,rfl,e,q⟩
   |_=>rw[e] at h;exact h.elim
 |_=>exact h.elim
mutual
noncomputable def we(G:Gx)(cl:Cl):E->Rho->PH->Post->XPost->Prop
 | .none,_,σ,Q,_=>Q .none σ
 | .bool b,_,σ,Q,_=>Q (.bool b) σ
 | .int i,_,σ,Q,_=>Q (.int i) σ
 | .str s,_,σ,Q,_=>Q (.str s) σ
 | .loc x,ρ,σ,Q,_=>oV (λv=>Q v σ) (ρ.get x)
 | .glob x,_,σ,Q,_=>oV (λv=>Q v σ) (G.glob x)
 | .bin p a b,ρ,σ,Q,X=>we G cl a ρ σ (λA σ1=>we G cl b ρ σ1 (λq O=>wbin p A q O Q) X) X
 | .not_ a,ρ,σ,Q,X=>we G cl a ρ σ (λv σ1=>cV (λb=>Q (.bool !b) σ1) v) X
 | .and_ a b,ρ,σ,Q,X=>we G cl a ρ σ (λv σ1=>cV (λy=>if y then we G cl b ρ σ1 Q X else Q (.bool Jd) σ1) v) X
 | .or_ a b,ρ,σ,Q,X=>we G cl a ρ σ (λv σ1=>cV (λy=>if y then Q (.bool Jc) σ1 else we G cl b ρ σ1 Q X) v) X
 | .isNone a,ρ,σ,Q,X=>we G cl a ρ σ (λv σ1=>Q (.bool v.isNone) σ1) X
 | .notNone a,ρ,σ,Q,X=>we G cl a ρ σ (λv σ1=>Q (.bool !v.isNone) σ1) X
 | .cmp p a b,ρ,σ,Q,X=>we G cl a ρ σ (λA σ1=>we G cl b ρ σ1 (λq O=>wcmp p A q O λr σ3=>Q (.bool r) σ3) X) X
 | .cmp2 a h b D c,ρ,σ,Q,X=>we G cl a ρ σ (λA σ1=>we G cl b ρ σ1 (λq O=>wcmp h A q O λr σ3=>
   if r then we G cl c ρ σ3 (λw N=>wcmp D q w N λr P=>Q (.bool r) P) X else Q (.bool Jd) σ3) X) X
 | .tup l,ρ,σ,Q,X=>wes G cl l ρ σ (λvs σ1=>Q (.tup vs) σ1) X
 | .list l,ρ,σ,Q,X=>wes G cl l ρ σ (λvs σ1=>wnew (.list vs) σ1 Q) X
 | .sub a i,ρ,σ,Q,X=>we G cl a ρ σ (λA σ1=>we G cl i ρ σ1 (λC O=>onD O (λks l=>oK (λk=>oV (λv=>Q v O) (klook ks l k)) (keyOf C)) A\/oNat (λk=>k<=lim/\oV (λv=>Q v O) (psub O A C)) (plen O A)) X) X
 | .upto a hi,ρ,σ,Q,X=>we G cl a ρ σ (λA σ1=>we G cl hi ρ σ1 (λC O=>onInt (λk=>pP (λl=>l.take (cut l.length k)) (λn=>0<=k/\k<n) A O Q) C) X) X
 | .from_ a V,ρ,σ,Q,X=>we G cl a ρ σ (λA σ1=>we G cl V ρ σ1 (λC O=>onInt (λk=>pP (λl=>l.drop (cut l.length k)) (λn=>1<=k/\k<=n) A O Q) C) X) X
 | .comp t tg k g,ρ,σ,Q,X=>G.calm=Jc/\wes G cl g ρ σ (λvs σ1=>src k vs σ1 λxs chk=>xs.length<=lim/\gb chk tg ρ (λo0 σ K=>K Jc σ) (λρ' σ K=>we G cl t ρ' σ K λo0 o0=>False) xs [] σ1 λB O=>wnew (.list B) O Q) X
 | .compIf t tg k g d,ρ,σ,Q,X=>G.calm=Jc/\wes G cl g ρ σ (λvs σ1=>src k vs σ1 λxs chk=>xs.length<=lim/\gb chk tg ρ (λρ' σ K=>we G cl d ρ' σ (λv σ'=>cV (λb=>K b σ') v) λo0 o0=>False) (λρ' σ K=>we G cl t ρ' σ K λo0 o0=>False) xs [] σ1 λB O=>wnew (.list B) O Q) X
 | .call f args,ρ,σ,Q,X=>G.fn f=Jc/\wes G cl args ρ σ (λvs σ1=>cl f vs σ1 Q X) X
 | .bi b args,ρ,σ,Q,X=>G.calm=Jc/\wes G cl args ρ σ (λvs σ1=>wbi b vs σ1 Q) X
 | .isi a j,ρ,σ,Q,X=>stat j=Jc/\we G cl a ρ σ (λv σ1=>oB (λb=>Q (.bool b) σ1) (isiV G σ1 v j)) X
 | .meth o m args,ρ,σ,Q,X=>we G cl o ρ σ (λW σ1=>recv m σ1 W/\wes G cl args ρ σ1 (λvs O=>wmeth m W vs O Q) X) X
 | .dict0,_,σ,Q,_=>G.full=Jc/\wnew (.dict [] []) σ Q
 | .get a k,ρ,σ,Q,X=>we G cl a ρ σ (λA σ1=>onD σ1 (λo0 o0=>True) A/\we G cl k ρ σ1 (λI O=>onD O (λks l=>oK (λk=>wget (klook ks l k) O Q) (keyOf I)) A) X) X
 | .sd a k,ρ,σ,Q,X=>we G cl a ρ σ (λA σ1=>onD σ1 (λo0 o0=>True) A/\we G cl k ρ σ1 (λI O=>wsd A O Q I) X) X
 | .attr x f,ρ,σ,Q,_=>oV (λv=>oV (λu=>Q u σ) (pattr G σ f v)) (ρ.get x)
 | .mcall c f o args,ρ,σ,Q,X=>G.fn f=Jc/\we G cl o ρ σ (λW σ1=>onI c σ1 W/\wes G cl args ρ σ1 (λvs O=>cl f (W::vs) O Q X) X) X
noncomputable def wes(G:Gx)(cl:Cl):List E->Rho->PH->(List PV->PH->Prop)->XPost->Prop
 |[],_,σ,Q,_=>Q [] σ
 |e::es,ρ,σ,Q,X=>we G cl e ρ σ (λv σ1=>wes G cl es ρ σ1 (λvs O=>Q (v::vs) O) X) X
end
abbrev SPost:=Fl->Rho->PH->Prop
abbrev gu:=PX->Rho->PH->Prop
noncomputable def onFl(K:Rho->PH->Prop)(Q:SPost):SPost
 | .next,ρ,σ=>K ρ σ
 | .ret v,ρ,σ=>Q (.ret v) ρ σ
noncomputable def forGo(chk:PH->Prop)(tg:Tg)(body:Rho->PH->SPost->Prop)(Q:SPost):List PV->Rho->PH->Prop
 |[],ρ,σ=>chk σ/\Q .next ρ σ
 |x::s,ρ,σ=>chk σ/\oR (λh=>body h σ (onFl (λD O=>forGo chk tg body Q s D O) Q)) (bindT tg x ρ)
def wset(o i v:PV)(σ:PH)(K:PH->Prop):Prop:=
 match o with
 | .ref a=>onDO (λs l=>l.length<lim/\oK (λk=>K (σ.set a (kset s l k v))) (keyOf i)) (σ a)\/onO (λl=>onInt (λk=>oNat (λj=>l.length<=lim/\K (σ.set a (.list (l.set j v)))) (place l.length k)) i) (σ a)
 |_=>False
noncomputable def whGo(tst:Rho->PH->(Bool->PH->Prop)->Prop)(body:Rho->PH->SPost->Prop)(Q:SPost):Nat->Rho->PH->Prop
 |0,_,_=>False
 |n+1,ρ,σ=>tst ρ σ λb m=>if b then body ρ m (onFl (λD O=>whGo tst body Q n D O) Q) else Q .next ρ m
mutual
noncomputable def ws(G:Gx)(cl cu:Cl):S->Rho->PH->SPost->gu->Prop
 | .assign (.name x) e,ρ,σ,Q,X=>we G cl e ρ σ (λv σ1=>Q .next (ρ.put x v) σ1) λx σ1=>X x ρ σ1
 | .assign (.tup xs) e,ρ,σ,Q,X=>G.calm=Jc/\we G cl e ρ σ (λv σ1=>oR (λρ'=>Q .next ρ' σ1) (bindT (.tup xs) v ρ)) λx σ1=>X x ρ σ1
 | .setIdx o i e,ρ,σ,Q,X=>we G cl e ρ σ (λv σ1=>we G cl o ρ σ1 (λW O=>we G cl i ρ O (λC σ3=>wset W C v σ3 λm=>Q .next ρ m) λx σ1=>X x ρ σ1) λx σ1=>X x ρ σ1) λx σ1=>X x ρ σ1
 | .expr e,ρ,σ,Q,X=>we G cl e ρ σ (λo0 σ1=>Q .next ρ σ1) λx σ1=>X x ρ σ1
 | .ret e,ρ,σ,Q,X=>we G cl e ρ σ (λv σ1=>Q (.ret v) ρ σ1) λx σ1=>X x ρ σ1
 | .if_ t b o,ρ,σ,Q,X=>we G cl t ρ σ (λv σ1=>cV (λc=>if c then wss G cl cu b ρ σ1 Q X else wss G cl cu o ρ σ1 Q X) v) λx σ1=>X x ρ σ1
 | .for_ tg k g b,ρ,σ,Q,X=>G.calm=Jc/\wes G cl g ρ σ (λvs σ1=>src k vs σ1 λxs chk=>xs.length<=lim/\forGo chk tg (λρ σ K=>wss G cl cu b ρ σ K λo0 o0 o0=>False) Q xs ρ σ1) λx σ1=>X x ρ σ1
 | .while_ t b,ρ,σ,Q,X=>G.calm=Jc/\∃k,whGo (λρ σ K=>we G cl t ρ σ (λv σ1=>cV (λc=>K c σ1) v) λx σ1=>X x ρ σ1) (λρ σ K=>wss G cl cu b ρ σ K X) Q k ρ σ
 | .raise c args,ρ,σ,_,X=>(G.full=Jc/\G.calm=Jc/\(G.mks.contains c=Jc\/(G.inis.contains c=Jc/\args.length=(G.flds c).length)))/\wes G cl args ρ σ (λvs σ1=>X ⟨c,vs.take (G.flds c).length⟩ ρ σ1) λx σ1=>X x ρ σ1
 | .try1 b c h,ρ,σ,Q,_=>(G.full=Jc/\G.calm=Jc/\G.cs.contains c=Jc)/\wss G cl cu b ρ σ Q λe j σ1=>
   if G.sub e.c c then wss G.un cu cu h j σ1 Q λo0 o0 o0=>False
   else False
noncomputable def wss(G:Gx)(cl cu:Cl):List S->Rho->PH->SPost->gu->Prop
 |[],ρ,σ,Q,_=>Q .next ρ σ
 |s::r,ρ,σ,Q,X=>ws G cl cu s ρ σ (onFl (λj σ1=>wss G cl cu r j σ1 Q X) Q) X
end
section
variable{G:Gx}{cl cu:Cl}{ρ:Rho}{σ:PH}
section
variable{Q:Post}{X:XPost}
end
section
variable{Q:List PV->PH->Prop}{X:XPost}
end
section
variable{Q:SPost}{X:gu}
end
end
structure Cx where
 prog:Jn
 w:Jm
 B:Ji
 cls:String->Option Jg
 flds:String->List String
 fv:String->Option Jf
 ok:Prop
 calm:Prop
 K:List (Jg×Jp)
 icl:String->Option Jg
noncomputable def Cx.un(C:Cx):Cx:={C with calm:=False}
noncomputable abbrev tupO(vs:Array Jf)(n:Nat):Jp:={cls:= .type "tuple",dict:=Jb,data:= .seq vs n,slots:= #[]}
noncomputable abbrev lstO(vs:Array Jf)(n:Nat):Jp:={cls:= .type "list",dict:=Jb,data:= .seq vs n,slots:= #[]}
mutual
noncomputable def VR(C:Cx)(σ:PH)(h:Ji):PV->Jf->Prop
 | .none,v=>v= .none
 | .bool b,v=>v= .bool b
 | .int i,v=>∃t,v= .int i t
 | .str s,v=>∃t,v= .str (Qb s) t
 | .tup l,v=>X3 λa n vs=>A4 (v= .ref a) (σ a=Jb) (h.get? a=Ja (tupO vs n))<|VRs C σ h l vs.toList
 | .ref a,v=>v= .ref a
 | .scr l,v=>X4 λa o n vs=>A6 (v= .ref a) (C.B.get? a=Ja o) (o.cls= .type "list") (o.data= .seq vs n) (vs.size=l.length) (∀ (i:Nat) (k:Int),l[i]? =Ja k->∃t,vs[i]? =Ja (Value.int k t))
noncomputable def VRs(C:Cx)(σ:PH)(h:Ji):List PV->List Jf->Prop
 |[],vs=>vs=[]
 |p::ps,vs=>X2 λv r=>A3 (vs=v::r) (VR C σ h p v)<|VRs C σ h ps r
end
inductive FD(C:Cx)(σ:PH)(h:Ji)(c:String)(fs:List PV)(o:Jp):Prop
 |mk (es:Array JN) (ep:Nat) (e:o.data= .dict es ep) (k:StrKeys es) (v:∀ (i:Nat) f p,(C.flds c)[i]? =Ja f->fs[i]? =Ja p->∃v,nsFind es (Qb f)=Ja v/\VR C σ h p v) (n:∀x,(∀f∈C.flds c,x≠Qb f)->nsFind es x=Option.none):FD C σ h c fs o
inductive KeyAt(C:Cx)(σ:PH)(h:Ji)(k:List KA)(a:Jg):Prop
 |mk (n:σ a=Option.none) (vs:Array Jf) (m:Nat) (g:h.get? a=Ja (tupO vs m)) (i:ItemsAre (mk C.prog C.w) k vs.toList):KeyAt C σ h k a
inductive DR(C:Cx)(σ:PH)(h:Ji)(ks:List (List KA))(l:List PV)(o:Jp):Prop
 |mk (es:Array JN) (ep:Nat) (xs:List (List KA×Jg×Jf)) (x:o.ExactDict) (d:o.data= .dict es ep) (e:es.toList=xs.map (JL (tk C.prog C.w))) (k:xs.map (·.1)=ks) (nd:ks.Nodup)
  (ka:∀y∈xs,KeyAt C σ h y.1 y.2.1) (v:VRs C σ h l (xs.map (·.2.2))):DR C σ h ks l o
def OR(C:Cx)(σ:PH)(h:Ji):PO->Jp->Prop
 | .list l,o=>∃v n,o=lstO v n/\VRs C σ h l v.toList
 | .dict s l,o=>DR C σ h s l o
 | .fd c f,o=>FD C σ h c f o
 | .inst d,o=>X2 λc k=>A5 (C.icl c=Ja k) (o.cls= .ref k) (∀c,o.data≠ .cls c) (o.dict=Ja d) (∃f,σ d=Ja (.fd c f))
noncomputable def PO.needs(ok:Prop)(a:Jg):PO->Prop
 | .dict .. =>a≠JC
 |_=>True
structure Sim(C:Cx)(σ:PH)(h:Ji):Prop where
 base:∀b o,C.B.get? b=Ja o->h.get? b=Ja o
 new:∀a o,σ a=Ja o->C.B.get? a=Jb
 objs:∀a o,σ a=Ja o->∃ob,h.get? a=Ja ob/\OR C σ h o ob
 rich:∀a o,σ a=Ja o->o.needs C.ok a
def Like(o o':Jp):Prop:=o'.cls=o.cls/\o'.dict=o.dict/\o'.data=o.data/\((∀e n,o.data≠ .dict e n)->o'.slots=o.slots)
theorem Like.eq{o o':Jp}(x:Like o o')(h:∀es n,o.data≠ .dict es n):o'=o:=by
 obtain⟨c,d,X,l⟩:=o;obtain⟨Q,T,t,s⟩:=o';obtain⟨N,p,J,w⟩:=x;simp only at N p J w;subst N p J;rw[w h]
def isSeq(o:Jp):Prop:=∃x n,o.data= .seq x n
structure Step(S:Jg->Prop)(σ:PH)(h:Ji)(σ':PH)(h':Ji):Prop where
 keep:∀b o,h.get? b=Ja o->σ b=Jb->σ' b=Jb/\∃o',h'.get? b=Ja o'/\((S b->isSeq o)->Like o o')
 grow:∀b o,σ b=Ja o->∃o',σ' b=Ja o'
 fix:∀b o,σ b=Ja o->o.fixed=Jc->σ' b=Ja o
 live:∀b,h'.get? b=Jb->h.get? b=Jb
theorem Like.refl(o:Jp):Like o o:=⟨rfl,rfl,rfl,λo0=>rfl⟩
theorem Like.trans(x:Like a b)(y:Like b c):Like a c:=⟨y.1.trans x.1,y.2.1.trans x.2.1,y.2.2.1.trans x.2.2.1,λh=>(y.2.2.2 (λs n e=>h s n (x.2.2.1.symm.trans e))).trans (x.2.2.2 h)⟩
theorem Like.isSeq(x:Like a b)(y:isSeq a):isSeq b:=by obtain⟨s,n,e⟩:=y;exact⟨s,n,x.2.2.1.trans e⟩
theorem Step.refl(S:Jg->Prop)(σ:PH)(h:Ji):Step S σ h σ h:=⟨λo0 o e s=>⟨s,o,e,λo0=> .refl o⟩,λo0 o e=>⟨o,e⟩,λo0 o0 e o0=>e,λo0 e=>e⟩
theorem Step.trans{S:Jg->Prop}{d K W:PH}(x:Step S d V K p)(y:Step S K p W h):Step S d V W h where
 keep:=λb o e s=>by
  obtain⟨G,i,g,l⟩:=x.keep b o e s;obtain⟨C,z,H,w⟩:=y.keep b i g G;exact⟨C,z,H,λq=>(l q).trans (w λc=>(l q).isSeq (q c))⟩
 grow:=λb o e=>by obtain⟨i,g⟩:=x.grow b o e;exact y.grow b i g
 fix:=λb o e f=>y.fix b o (x.fix b o e f) f
 live:=λb e=>x.live b<|y.live b e
theorem Step.mono{S r:Jg->Prop}{h A:Ji}(x:Step S σ h σ' A)(k:∀b,(h.get? b).isSome->S b->r b):Step r σ h σ' A where
 keep:=λb o e s=>by obtain⟨g,i,y,l⟩:=x.keep b o e s;exact⟨g,i,y,λq=>l λf=>q<|k b (by simp[e]) f⟩
 grow:=x.grow
 fix:=x.fix
 live:=x.live
mutual
theorem VR.step{S:Jg->Prop}(st:Step S σ h σ' A):∀ (p:PV) (v:Jf),VR C σ h p v->VR C σ' A p v
 | .none=>λo0 e=>e
 | .bool _=>λo0 e=>e
 | .int _=>λo0 e=>e
 | .str _=>λo0 e=>e
 | .ref _=>λo0 e=>e
 | .scr _=>λo0 e=>e
 | .tup l=>λv e=>by
  obtain⟨a,n,vs,T,es,e2,V⟩:=e;obtain⟨s,o',o,k⟩:=st.keep a _ e2 es;rw[(k λo0=>⟨vs,n,rfl⟩).eq (by simp)] at o;exact⟨a,n,vs,T,s,o,VRs.step st l _ V⟩
theorem VRs.step{S:Jg->Prop}(st:Step S σ h σ' A):∀ (l:List PV) (vs:List Jf),VRs C σ h l vs->VRs C σ' A l vs
 |[]=>λo0 e=>e
 |p::ps=>λvs e=>by
  obtain⟨v,r,T,e2,X⟩:=e;exact⟨v,r,T,VR.step st p v e2,VRs.step st ps r X⟩
end
theorem KeyAt.step{S:Jg->Prop}(st:Step S σ h σ' A)(x:KeyAt C σ h k a):KeyAt C σ' A k a:=by
 obtain⟨n,v,m,g,i⟩:=x;obtain⟨X,o,e,l⟩:=st.keep a _ g n;rw[(l λo0=>⟨v,m,rfl⟩).eq (by simp)] at e;exact⟨X,v,m,e,i⟩
theorem OR.step{S:Jg->Prop}(st:Step S σ h σ' A):∀ (p:PO) (o:Jp),OR C σ h p o->OR C σ' A p o:=λp o r=>by
 induction p with
 |list l=>obtain⟨J,n,F,X⟩:=r;exact⟨J,n,F,VRs.step st _ _ X⟩
 |dict=>obtain⟨U,s,P,x,d,e,k,nd,a,v⟩:=r;exact⟨U,s,P,x,d,e,k,nd,λy W=>(a y W).step st,VRs.step st _ _ v⟩
 |fd=>obtain⟨U,s,e,k,v,z⟩:=r;exact⟨U,s,e,k,λi f p N Y=>(v i f p N Y).imp λu q=>⟨q.1,VR.step st _ _ q.2⟩,z⟩
 |inst d=>obtain⟨c,k,T,F,X,I,V⟩:=r;exact⟨c,k,T,F,X,I,V.imp λL w=>st.fix d _ w rfl⟩
def Rest(s s':Je):Prop:=s'.gens=s.gens/\s'.os=s.os
theorem Rest.refl(s:Je):Rest s s:=⟨rfl,rfl⟩
theorem Rest.trans(x:Rest a b)(y:Rest b c):Rest a c:=⟨y.1.trans x.1,y.2.trans x.2⟩
noncomputable def none1:Jg->Prop:=λo0=>False
inductive FF(C:Cx)(x:PX)(σ:PH)(h₀ h:Ji)(od:Option Jg):Prop
 |no (f:x.fs=[]) (e:od=Option.none):FF C x σ h₀ h od
 |at_ (f:x.fs≠ []) (d:Jg) (o:Jp) (e:od=Ja d) (b:C.B.get? d=Option.none) (n:σ d=Option.none) (z:h₀.get? d=Option.none) (g:h.get? d=Ja o) (r:FD C σ h x.c x.fs o):FF C x σ h₀ h od
theorem FF.from{S:Jg->Prop}(f:FF C x σ V h v)(st:Step S B h₀ p V):FF C x σ h₀ h v:=by
 induction f with
 |no f e=>exact .no f e
 |at_ f d o e b n z g r=>exact .at_ f d o e b n (st.live _ z) g r
inductive Fly(C:Cx)(own:Option Jg)(x:PX)(e:Jf)(σ:PH)(h₀ h:Ji):Prop
 |mk (a:Jg) (o:Jp) (vs:Array Jf) (k:Jg) (q1:e= .ref a) (q2:C.B.get? a=Option.none) (q3:σ a=Option.none) (q4:h₀.get? a=Option.none) (q5:h.get? a=Ja o) (q6:C.cls x.c=Ja k) (q7:o.cls= .ref k) (q8:o.data= .fields vs) (q9:vs[2]? =Ja .none)
  (q10:vs[1]? =Ja .none\/X3 λT oT ts=>A8 (vs[1]? =Ja (.ref T)) (T≠a) (C.B.get? T=Option.none) (σ T=Option.none) (h₀.get? T=Option.none) (h.get? T=Ja oT) (oT.data= .fields ts)<|(ts[3]? =Ja .none\/∃L,own=Ja L/\ts[3]? =Ja (Jx L))) (q11:FF C x σ h₀ h o.dict):Fly C own x e σ h₀ h
theorem Fly.from{S:Jg->Prop}{own:Option Jg}{σ B d:PH}(f:Fly C own x e σ V h)(st:Step S B h₀ d V):Fly C own x e σ h₀ h:=by
 obtain⟨a,o,v,k,c,R,Q,N,j,Z,M,U,F,J,q⟩:=f;refine⟨a,o,v,k,c,R,Q,st.live _ N,j,Z,M,U,F,J.imp id ?_,q.from st⟩;rintro ⟨T,W,t,A,I,n,D,y,z,K,w⟩;exact⟨T,W,t,A,I,n,D,st.live _ y,z,K,w⟩
theorem Fly.weak{own:Option Jg}(f:Fly C Jb x e σ h₀ h):Fly C own x e σ h₀ h:=by
 obtain⟨a,o,v,k,c,R,Q,N,j,Z,M,n,F,J,q⟩:=f;refine⟨a,o,v,k,c,R,Q,N,j,Z,M,n,F,J.imp id ?_,q⟩;rintro ⟨T,W,t,P,I,B,D,y,d,K,w⟩;exact⟨T,W,t,P,I,B,D,y,d,K,w.imp id λA=>by obtain⟨L,z,o0⟩:=A;exact(ns z)⟩
inductive VP(C:Cx)(S:Jg->Prop)(σ:PH)(s:Je)(Q:Post)(v:Jf)(s':Je):Prop
 |mk (p:PV) (σ':PH) (a:VR C σ' s'.heap p v) (b:Sim C σ' s'.heap) (c:Step S σ s.heap σ' s'.heap) (d:Rest s s') (e:Q p σ'):VP C S σ s Q v s'
inductive VPs(C:Cx)(S:Jg->Prop)(σ:PH)(s:Je)(Q:List PV->PH->Prop)(v:List Jf)(s':Je):Prop
 |mk (p:List PV) (σ':PH) (a:VRs C σ' s'.heap p v) (b:Sim C σ' s'.heap) (c:Step S σ s.heap σ' s'.heap) (d:Rest s s') (e:Q p σ'):VPs C S σ s Q v s'
inductive XP(C:Cx)(S:Jg->Prop)(σ:PH)(s:Je)(X:XPost)(e:Jf)(s':Je):Prop
 |mk (x:PX) (σ':PH) (a:Fly C Option.none x e σ' s.heap s'.heap) (b:Sim C σ' s'.heap) (c:Step S σ s.heap σ' s'.heap) (d:Rest s s') (q:X x σ'):XP C S σ s X e s'
theorem VP.from{S:Jg->Prop}{s s₁:Je}(st:Step S σ s.heap o s₁.heap)(r:Rest s s₁)(x:VP C S o s₁ Q v s'):VP C S σ s Q v s':=
 by obtain⟨p,X,a,b,c,d,e⟩:=x;exact⟨p,X,a,b,st.trans c,r.trans d,e⟩
theorem XP.from{S:Jg->Prop}{s s₁:Je}(st:Step S σ s.heap o s₁.heap)(r:Rest s s₁)(x:XP C S o s₁ X v s'):XP C S σ s X v s':=
 by obtain⟨p,T,a,b,c,d,e⟩:=x;exact⟨p,T,a.from st,b,st.trans c,r.trans d,e⟩
def Frs(C:Cx)(σ:PH)(h:Ji)(l:List Js):Prop:=
 ∀e∈l,e.scope.kind≠ .module/\X4 λL o s n=>A5 (e.frame=Ja L) (C.B.get? L=Jb) (σ L=Jb) (h.get? L=Ja o)<|o.data= .dict s n
theorem Frs.step{S:Jg->Prop}(f:Frs C σ h l)(st:Step S σ h σ' A)(E:∀env∈l,∀L,env.frame=Ja L->¬S L):Frs C σ' A l:=λenv e=>by
 obtain⟨k,L,o,s,n,T,w,X,u,V⟩:=f env e;obtain⟨q,i,m,N⟩:=st.keep L o u X;have N:=N λb=>absurd b<|E env e L T;exact⟨k,L,i,s,n,T,w,q,m,N.2.2.1.trans V⟩
theorem Frs.fun{C:Cx}{h:Ji}:∀ {l:List Js},Frs C σ h l->h.FunFrames C.B l
 |[]=>λo0=>trivial
 |env::r=>λf=>by
  obtain⟨k,L,o,s,n,T,w,X,u,V⟩:=f env<|.head _;exact⟨k,⟨L,o,T,w,u,λv q=>by rw[V] at q;cases q⟩,Frs.fun λe O=>f e<|.tail _ O⟩
structure AOK(C:Cx)(n:Nat)(A:Jj)(l:List Js)(σ:PH)(h:Ji):Prop where
 depth:A.depth+n+2<JZ
 units:A.units+30*n+300<Y5
 stack:A.frames=Ja l
 frs:Frs C σ h l
 calm:C.calm->A.handled=Jb
structure EnvR(C:Cx)(env:Js)(ρ:Rho)(σ:PH)(h:Ji):Prop where
 fn:env.scope.kind= .function
 glob:env.globals=JA
 blt:env.builtins=builtinsNs
 ns:∃m,h.Ns env.locals m/\∀x p,ρ.get x=Ja p->env.kindOf (Qb x)=Ja .local->∃v,m (Qb x)=Ja v/\VR C σ h p v
 cell:∀x p,ρ.get x=Ja p->env.kindOf (Qb x)=Ja .cell\/env.kindOf (Qb x)=Ja .free->X2 λc v=>A3 (env.cells.lookup (Qb x)=Ja c) (h.IsCell c<|Ja v)<|VR C σ h p v
 newL:σ env.locals=Jb
 baseL:C.B.get? env.locals=Jb
 baseC:∀x c,env.cells.lookup x=Ja c->C.B.get? c=Jb
 newC:∀x c,env.cells.lookup x=Ja c->σ c=Jb/\∃v,h.IsCell c v
 apart:∀x y c,env.cells.lookup x=Ja c->env.cells.lookup y=Ja c->x=y
 hasC:∀x,env.kindOf x=Ja .cell\/env.kindOf x=Ja .free->∃c,env.cells.lookup x=Ja c
theorem Ns.like{h A:Ji}{m:Jq->Option Jf}(x:h.Ns a m)(k:∀o,h.get? a=Ja o->∃o',A.get? a=Ja o'/\Like o o'):A.Ns a m:=
 by obtain⟨o,s,p,e,r⟩:=x;obtain⟨o',g,l⟩:=k o e;exact⟨o',s,p,g,l.2.2.1.trans r.1,r.2⟩
theorem IsCell.like{h A:Ji}(x:h.IsCell a v)(k:∀o,h.get? a=Ja o->∃o',A.get? a=Ja o'/\Like o o'):A.IsCell a v:=
 by obtain⟨o,e,r⟩:=x;obtain⟨o',g,l⟩:=k o e;exact⟨o',g,l.2.2.1.trans r⟩
theorem EnvR.step(x:EnvR C env L σ h)(st:Step none1 σ h σ' A):EnvR C env L σ' A where
 fn:=x.fn
 glob:=x.glob
 blt:=x.blt
 ns:=by
  obtain⟨m,n,hv⟩:=x.ns;refine⟨m,Ns.like n λo e=> ?_,λy p T w=>by obtain⟨v,a,b⟩:=hv y p T w;exact⟨v,a,b.step st⟩⟩;obtain⟨o0,i,g,l⟩:=st.keep _ o e x.newL;exact⟨i,g,l λf=>f.elim⟩
 cell:=λy p T w=>by
  obtain⟨c,v,a,b,d⟩:=x.cell y p T w;refine⟨c,v,a,IsCell.like b λo e=> ?_,d.step st⟩;obtain⟨o0,i,g,l⟩:=st.keep _ o e (x.newC _ c a).1;exact⟨i,g,l λf=>f.elim⟩
 newL:=by
  obtain⟨m,⟨o,U,s,e,o0⟩,o0⟩:=x.ns;exact(st.keep _ o e x.newL).1
 newC:=λy c e=>by
  obtain⟨a,v,o,b,d⟩:=x.newC y c e;obtain⟨q,i,g,l⟩:=st.keep _ o b a;exact⟨q,v,i,g,(l λf=>f.elim).2.2.1.trans d⟩
 baseL:=x.baseL
 baseC:=x.baseC
 apart:=x.apart
 hasC:=x.hasC
theorem AOK.step{h S:Ji}(x:AOK C n A l σ h)(st:Step none1 σ h σ' S):AOK C n A l σ' S:=
 ⟨x.depth,x.units,x.stack,x.frs.step st λo0 o0 o0 o0 f=>f,x.calm⟩
noncomputable def nm(y:Jq)(x:String):Bool:=y==Qb x
noncomputable def isLoc(sc:Jk)(y:Jq):Bool:=sc.names.lookup y==Ja .local||sc.names.lookup y==Ja .cell||sc.names.lookup y==Ja .free
noncomputable def isOwn(sc:Jk)(y:Jq):Bool:=sc.names.lookup y==Ja .local||sc.names.lookup y==Ja .cell
noncomputable def nj(sc:Jk)(y:Jq):Bool:=sc.names.lookup y==Ja .globalImplicit
noncomputable def bD(y:Jq):Bool:= !(y==("__debug__":Jq))&& !(y==("__classdict__":Jq))
noncomputable def BOp.py:BOp->Operator
 | .add=> .Add| .sub=> .Sub| .mul=> .Mult| .fdiv=> .FloorDiv| .mod=> .Mod| .pow _=> .Pow
noncomputable def COp.py:COp->CmpOp
 | .eq=> .Eq| .ne=> .NotEq| .lt=> .Lt| .le=> .LtE| .gt _=> .Gt| .ge=> .GtE| .in_=> .In| .nin=> .NotIn
noncomputable def mOp(a:BOp)(o:Operator):Bool:=decide<|o=a.py
noncomputable def mC(a:COp)(o:CmpOp):Bool:=decide<|o=a.py
noncomputable def BI.nm:BI->String
 | .len=>"len"| .all=>"all"| .sum=>"sum"| .int=>"int"| .list=>"list"| .min=>"min"| .sorted=>"sorted"| .dict _=>"dict"
noncomputable def Me.nm:Me->String
 | .append=>"append"| .remove=>"remove"
def glb(sc:Jk)(x:String):Jl->Bool
 | .Name y _=>Vl.Internal.nm y x&&nj sc y&&bD y
 |_=>Jd
noncomputable def eE(sc:Jk):List String->List Jl->Bool
 |[],[]=>Jc
 |x::s,.Name y _::r=>Vl.Internal.nm y x&&isOwn sc y&&bD y&& !s.contains x&&eE sc s r
 |_,_=>Jd
def mTg(sc:Jk):Tg->Jl->Bool
 | .name x,.Name y _=>Vl.Internal.nm y x&&isOwn sc y&&bD y
 | .tup s,.Tuple e _ _=>eE sc s e
 |_,_=>Jd
noncomputable def kU(sc:Jk):List String->List Jl->Bool
 |[],[]=>Jc
 |t::s,e::U=>glb sc t e&&kU sc s U
 |_,_=>Jd
noncomputable def oneT(f:String->Bool):List String->Bool
 |[t]=>f t
 |_=>Jd
def mType(sc:Jk)(v:List String):Jl->Bool
 | .Tuple s _ _=>kU sc v s&&(decide (2<=s.length)&&decide (s.length<=100))
 |e=>oneT (λt=>glb sc t e) v
noncomputable def eW(sc s:Jk):Bool:=
 s.kind== .function&& !s.isGenerator&& !s.isCoroutine&&(s.names.all λ(n,k)=>k != .free||sc.names.lookup n==Ja .cell||sc.names.lookup n==Ja .free)&&
 (s.names.all λ(n,k)=>s.names.lookup n==Ja k)&&decide ((s.names.map (·.1)).Nodup)
noncomputable def ownOk(tg:Tg)(s:Jk):Bool:=s.names.all λ(n,k)=>(k != .local&&k != .cell)||(".0"::tg.names).any λx=>Vl.Internal.nm n x
noncomputable def bP(f:String):Bool:= !f.toList.contains '.'
noncomputable def d9:Jl->Bool
 | .Call _ [] _ _=>Jd
 |_=>Jc
noncomputable def xk:Jl->Nat
 | .Constant .. =>0| .Name .. =>1| .BinOp .. =>2| .UnaryOp .. =>3| .BoolOp .. =>4| .Compare .. =>5| .Tuple .. =>7| .List .. =>8| .Subscript .. =>10| .ListComp .. =>11| .Call .. =>12| .Attribute .. =>13| .Slice .. =>14| .Dict .. =>15
 |_=>99
def kz(x:Jl):Bool:= !(xk x==99)
noncomputable def sk:Jo->Nat
 | .Assign .. =>0| .Expr .. =>1| .Return .. =>2| .If .. =>3| .For .. =>4| .While .. =>5| .Raise .. =>6| .Try .. =>7
 |_=>99
abbrev XB:=Jl->Bool
noncomputable def ua(f:Const->Bool):XB| .Constant c _ _=>f c|_=>Jd
def qName(f:Jq->Bool)(x:String):XB| .Name y _=>Vl.Internal.nm y x&&f y&&bD y|_=>Jd
def qBin(p:BOp)(f g:XB):XB| .BinOp l o r _=>mOp p o&&f l&&g r|_=>Jd
noncomputable def qUn(u:UnaryOp)(f:XB):XB| .UnaryOp o x _=>decide (o=u)&&f x|_=>Jd
noncomputable def qBool(u:BoolOp)(f g:XB):XB
 | .BoolOp o [x,y] _=>decide (o=u)&&(f x&&g y)
 | .BoolOp o (x::y::z::r) p=>decide (o=u)&&(f x&&g (.BoolOp o (y::z::r) p))
 |_=>Jd
noncomputable def qIs(u:CmpOp)(f g:XB):XB| .Compare l [o] [c] _=>decide (o=u)&&(f l&&g c)|_=>Jd
def qCmp(p:COp)(f g:XB):XB| .Compare l [o] [r] _=>mC p o&&f l&&g r&& !(JG o r)|_=>Jd
def qCmp2(k P:COp)(f g h:XB):XB| .Compare l [o,p] [m,r] _=>mC k o&&mC P p&&f l&&g m&&h r&& !(JG p r)|_=>Jd
noncomputable def qTup(f:List Jl->Bool):XB| .Tuple e _ _=>f e&&decide (e.length<=100)|_=>Jd
noncomputable def qList(f:List Jl->Bool):XB| .List es _=>f es&&decide (es.length<=100)|_=>Jd
noncomputable def qSub(f g:XB):XB| .Subscript x y _=>f x&&g y|_=>Jd
noncomputable def qTo(g:XB):XB| .Slice Jb (Ja y) Jb _=>g y|_=>Jd
noncomputable def qFrom(g:XB):XB| .Slice (Ja y) Jb Jb _=>g y|_=>Jd
def qComp(sc:Jk)(tg:Tg)(f:XB)(g:Jk->XB):XB| .ListComp e [⟨t,i,[],a⟩] s _=>decide (a=0)&&(f i&&mTg s tg t&&g s e&&eW sc s&&ownOk tg s)|_=>Jd
def qU(sc:Jk)(tg:Tg)(f:XB)(g h:Jk->XB):XB| .ListComp e [⟨t,i,[c],a⟩] s _=>decide (a=0)&&(f i&&mTg s tg t&&g s e&&h s c&&eW sc s&&ownOk tg s)|_=>Jd
noncomputable def qCall(f:XB)(g:List Jl->Bool):XB| .Call x a [] _=>f x&&g a|_=>Jd
noncomputable def qMeth(f:Pos->XB)(g:List Jl->Bool):XB| .Call x a [] q=>f q x&&g a|_=>Jd
def qAttr(a:String)(f:XB)(g:Pos->Bool):XB| .Attribute x y p=>f x&&d9 x&&Vl.Internal.nm y a&&g p|_=>Jd
noncomputable def one1(f:XB):List Jl->Bool|[x]=>f x|_=>Jd
noncomputable def two2(f g:XB):List Jl->Bool|[x,y]=>f x&&g y|_=>Jd
def hCst(c:Const):XB:=λx=>xk x==0&&ua (λd=>decide (d=c)) x
def hNone:XB:=hCst .none
def hName(f:Jq->Bool)(x:String):XB:=λe=>xk e==1&&qName f x e
def hBin(o:BOp)(f g:XB):XB:=λx=>xk x==2&&qBin o f g x
def hNot(f:XB):XB:=λx=>xk x==3&&qUn .Not f x
def hAnd(f g:XB):XB:=λx=>xk x==4&&qBool .And f g x
def hOr(f g:XB):XB:=λx=>xk x==4&&qBool .Or f g x
def wr(f:XB):XB:=λx=>xk x==5&&qIs .Is f hNone x
def sF(f:XB):XB:=λx=>xk x==5&&qIs .IsNot f hNone x
def hCmp(o:COp)(f g:XB):XB:=λx=>xk x==5&&qCmp o f g x
def hCmp2(o P:COp)(f g h:XB):XB:=λx=>xk x==5&&qCmp2 o P f g h x
def hTup(f:List Jl->Bool):XB:=λx=>xk x==7&&qTup f x
def hList(f:List Jl->Bool):XB:=λx=>xk x==8&&qList f x
def hSub(f g:XB):XB:=λx=>xk x==10&&qSub f g x
def hTo(g:XB):XB:=λx=>xk x==14&&qTo g x
def hFr(g:XB):XB:=λx=>xk x==14&&qFrom g x
def hUpto(f g:XB):XB:=hSub f<|hTo g
def hFrom(f g:XB):XB:=hSub f<|hFr g
def hComp(sc:Jk)(tg:Tg)(f:XB)(g:Jk->XB):XB:=λx=>xk x==11&&qComp sc tg f g x
def qO(sc:Jk)(tg:Tg)(f:XB)(g h:Jk->XB):XB:=λx=>xk x==11&&qU sc tg f g h x
def hCl(f:XB)(g:List Jl->Bool):XB:=λx=>xk x==12&&qCall f g x
def hCall(sc:Jk)(n:String)(f:List Jl->Bool):XB:=hCl (λx=>glb sc n x&&bP n) λa=>f a&&decide (a.length<=20)
def hBi1(sc:Jk)(n:String)(f:List Jl->Bool):XB:=hCl (glb sc n) λa=>f a&&decide (a.length<=20)
def hIsi(sc:Jk)(t:List String)(f:XB):XB:=hCl (glb sc "isinstance")<|two2 f (mType sc t)
def hAt(a:String)(f:XB)(g:Pos->Bool):XB:=λx=>xk x==13&&qAttr a f g x
noncomputable def tx:XB| .Dict [] [] _=>Jc|_=>Jd
def sZ:XB:=λx=>xk x==15&&tx x
def hEmp:XB:=hList λe=>e.isEmpty
noncomputable def mOf(f:String):String:=String.ofList ((f.toList.dropWhile (· !='.')).drop 1)
noncomputable def cOf(f:String):String:=String.ofList (f.toList.takeWhile (· !='.'))
def hMc(m:String)(f:XB)(g:List Jl->Bool):XB:=λx=>xk x==12&&qMeth (λq=>hAt m f λp=>p.endLine==q.line) g x
def hAttr(a:String)(f:XB):XB:=hAt a f λo0=>Jc
noncomputable def Tg.isTup:Tg->Bool| .tup _=>Jc|_=>Jd
def qIt(sc:Jk)(k:IK)(tg:Tg)(f:List Jl->Bool):XB:=match k with
 | .val=>λx=>f [x]
 | .range=>hCl (glb sc "range") λa=>f a&&decide (a.length=1)
 | .enum=>hCl (glb sc "enumerate") λa=>f a&&(decide (a.length=1)&&tg.isTup)
mutual
noncomputable def mE(sc:Jk):E->Jl->Bool
 | .none=>hNone
 | .bool b=>hCst<|.bool b
 | .int i=>hCst<|.int i
 | .str s=>hCst<|.str (Qb s)
 | .loc x=>hName (isLoc sc) x
 | .glob x=>hName (nj sc) x
 | .bin op a b=>hBin op (mE sc a)<|mE sc b
 | .not_ a=>hNot<|mE sc a
 | .and_ a b=>hAnd (mE sc a)<|mE sc b
 | .or_ a b=>hOr (mE sc a)<|mE sc b
 | .isNone a=>wr<|mE sc a
 | .notNone a=>sF<|mE sc a
 | .cmp op a b=>hCmp op (mE sc a)<|mE sc b
 | .cmp2 a o1 b o2 c=>hCmp2 o1 o2 (mE sc a) (mE sc b)<|mE sc c
 | .tup l=>hTup<|mEs sc l
 | .list l=>hList<|mEs sc l
 | .sub a i=>hSub (mE sc a)<|mE sc i
 | .upto a i=>hUpto (mE sc a)<|mE sc i
 | .from_ a i=>hFrom (mE sc a)<|mE sc i
 | .comp elt tg k it=>hComp sc tg (qIt sc k tg (mEs sc it)) λsc'=>mE sc' elt
 | .compIf elt tg k it c=>qO sc tg (qIt sc k tg (mEs sc it)) (λsc'=>mE sc' elt) λsc'=>mE sc' c
 | .call f args=>hCall sc f<|mEs sc args
 | .bi b args=>hBi1 sc b.nm<|mEs sc args
 | .isi a ts=>hIsi sc ts λx=>kz x&&mE sc a x
 | .meth o m args=>hMc m.nm (mE sc o) λas=>mEs sc args as&&decide (as.length=1)
 | .dict0=>sZ
 | .get a k=>hMc "get" (mE sc a) (two2 (λx=>kz x&&mE sc k x) hEmp)
 | .sd a k=>hMc "setdefault" (mE sc a) (two2 (λx=>kz x&&mE sc k x) hEmp)
 | .attr x f=>hAttr f<|hName (isLoc sc) x
 | .mcall c f o args=>hMc (mOf f) (mE sc o) λas=>mEs sc args as&&(decide (as.length<=20)&& !bP f&&(cOf f==c))
noncomputable def mEs(sc:Jk):List E->List Jl->Bool
 |[],[]=>Jc
 |a::as,x::xs=>(kz x&&mE sc a x)&&mEs sc as xs
 |_,_=>Jd
end
def mIt(sc:Jk)(k:IK)(tg:Tg)(i:List E):XB:=qIt sc k tg<|mEs sc i
noncomputable def E.isC:E->Bool
 | .comp .. | .compIf .. =>Jc
 |_=>Jd
abbrev SB:=Jo->Bool
abbrev SBs:=List Jo->Bool
noncomputable def rAsg(f h:XB):SB| .Assign [t] v _=>f t&&h v|_=>Jd
noncomputable def rExpr(f:XB):SB| .Expr v _=>f v|_=>Jd
noncomputable def rRet(f:XB):SB| .Return (Ja v) _=>f v|_=>Jd
noncomputable def rIf(f:XB)(g h:SBs):SB| .If x y z _=>f x&&g y&&h z|_=>Jd
noncomputable def rFor(f g:XB)(h:SBs):SB| .For t i y [] _=>f t&&g i&&h y|_=>Jd
noncomputable def tM(f:XB)(h:SBs):SB| .While t y [] _=>f t&&h y|_=>Jd
noncomputable def sG(f:XB):SB| .Raise (Ja x) Jb _=>f x|_=>Jd
noncomputable def rTry(f:SBs)(g:List J3->Bool):SB| .Try y h [] [] _=>f y&&g h|_=>Jd
def rHd(sc:Jk)(c:String)(g:SBs):J3->Bool| .ExceptHandler (Ja t) n (z::r) _=>glb sc c t&&n.isNone&&g (z::r)|_=>Jd
noncomputable def rH1(f:J3->Bool):List J3->Bool|[h]=>f h|_=>Jd
def hOwn(sc:Jk)(x:String):XB:=λe=>xk e==1&&qName (isOwn sc) x e
noncomputable def qTupT(f:List Jl->Bool):XB| .Tuple e _ _=>f e|_=>Jd
def hTupT(f:List Jl->Bool):XB:=λe=>xk e==7&&qTupT f e
def kAsg(f h:XB):SB:=λx=>sk x==0&&rAsg f h x
def kExpr(f:XB):SB:=λx=>sk x==1&&rExpr f x
def kRet(f:XB):SB:=λx=>sk x==2&&rRet f x
def kIf(f:XB)(g h:SBs):SB:=λx=>sk x==3&&rIf f g h x
def kFor(f g:XB)(h:SBs):SB:=λx=>sk x==4&&rFor f g h x
def uO(f:XB)(h:SBs):SB:=λx=>sk x==5&&tM f h x
def t2(f:XB):SB:=λx=>sk x==6&&sG f x
def kTry(f:SBs)(g:List J3->Bool):SB:=λx=>sk x==7&&rTry f g x
mutual
noncomputable def mS(sc:Jk):S->Jo->Bool
 | .assign (.name x) e=>kAsg (hOwn sc x) λv=>(kz v&&(!(xk v==11)||e.isC))&&mE sc e v
 | .assign (.tup xs) e=>kAsg (hTupT (eE sc xs)) λv=>(kz v&& !(xk v==7))&&mE sc e v
 | .setIdx o i e=>kAsg (hSub (mE sc o) (mE sc i)) λv=>kz v&&mE sc e v
 | .expr e=>kExpr λv=>xk v==12&&mE sc e v
 | .ret e=>kRet<|mE sc e
 | .if_ t b o=>kIf (mE sc t) (mSs sc b)<|mSs sc o
 | .for_ tg k it b=>kFor (mTg sc tg) (mIt sc k tg it)<|mSs sc b
 | .while_ t b=>uO (mE sc t)<|mSs sc b
 | .raise c args=>t2<|hBi1 sc c (mEs sc args)
 | .try1 b c h=>kTry (mSs sc b)<|rH1 (rHd sc c<|mSs sc h)
noncomputable def mSs(sc:Jk):List S->List Jo->Bool
 |[],[]=>Jc
 |a::as,x::xs=>mS sc a x&&mSs sc as xs
 |_,_=>Jd
end
section
open PySem.W PyProof.Rows
structure Fn where
 f:String
 ps:List String
 ls:List String
 b:List S
structure Cls where
 nm:String
 as:List String
 fs:List String
 es:List E
 ms:List Fn
structure Kinds where
 cs:List String
 mks:List String
 inis:List String
 flds:String->List String
 sub:String->String->Bool
 cl:List Cls
noncomputable def b0(K:Frag)(c:String):Option Jg:=match nsIn K JA (Qb c) with
 |some (Ja (.ref a))=>Ja a
 |_=>Jb
def sB(K:Frag)(k:Kinds)(c:String):Bool:=match b0 K c with
 |some a=>((k.flds c).all λf=>findIn K (.ref a) (Qb f)==Ja Jb)&&k.cs.all λd=>match b0 K d with
  |some b=>exmOne K (.ref a) (.ref b)==Ja (k.sub c d)
  |none=>Jd
 |none=>Jd
def j8(K:Frag)(k:Kinds):Bool:=k.cs.all<|sB K k
noncomputable def yl(o:Jp):List Jg:=match o.data with
 | .cls cd=>[cd.ns]
 |_=>[]
def zT(h:Ji)(cs:List String):List Jg:=JA::cs.flatMap λc=>match h.nsMap JA (Qb c) with
 |some (.ref a)=>match h.get? a with
  |some o=>a::yl o
  |none=>[]
 |_=>[]
noncomputable def ia(h:Ji)(as:List Jg):Frag:=as.filterMap λa=>(h.get? a).map λo=>(a,o)
noncomputable def mIni(sc:Jk):List String->List Jo->Bool
 |[],[]=>Jc
 |x::xs,y::ys=>kAsg (hAttr x<|hName (isLoc sc) "self") (hName (isLoc sc) x) y&&mIni sc xs ys
 |_,_=>Jd
noncomputable def mX(ps:List String):Arguments->Bool
 |⟨[],as,Jb,[],_,Jb,_⟩=>as.map (·.arg)==ps.map Qb
 |_=>Jd
noncomputable def refOf:Option Jf->Option Jg
 |some (.ref a)=>Ja a
 |_=>Jb
noncomputable def clsOf:Data->Option ClassData
 | .cls cd=>Ja cd
 |_=>Jb
noncomputable def my(h:Ji):List Jf->Bool
 |[]=>Jd
 |v::tl=>(v::tl==bmE)||(refOf (Ja v)).any λA=>(h.get? A).any λo=>(clsOf o.data).any λcd=>h.isNs cd.ns&&(h.nsMap cd.ns "__init__").isNone&&my h tl
def fnIni(h:Ji)(fd:Jr)(names:List String)(body:List Jo):Bool:=
 (h.codeRecOk fd.code fd.qualname&&fd.closure.isEmpty&&(fd.defaults== .none))&&(mX ("self"::names) fd.params&&(("self"::names).all λx=>fd.scope.names.lookup (Qb x)==Ja .local&& !(Qb x==("__debug__":Jq)))&&decide ("self"::names).Nodup)&&
  (!fd.scope.isCoroutine&& !fd.scope.isGenerator&&(fd.scope.kind== .function))&&mIni fd.scope names body
noncomputable def pD:FuncBody->Option (List Jo)
 | .stmts b=>Ja b
 |_=>Jb
noncomputable def pQ:Data->Option Jr
 | .func fd=>Ja fd
 |_=>Jb
def fnObj(h:Ji)(names:List String)(o:Jp):Bool:=(o.cls== .type "function")&&((pQ o.data).any λfd=>(pD fd.body).any λbody=>fnIni h fd names body)
noncomputable def ro(l:List (Option Jf)):Bool:=l==[l[0]?.getD Jb,l[1]?.getD Jb,l[2]?.getD Jb,l[3]?.getD Jb,Ja<|.builtin "ValueError.__new__",l[5]?.getD Jb]
def mroOK(h:Ji)(k:Jg):List Jf->Bool
 |v::bm=>(v== .ref k)&&my h bm
 |[]=>Jd
def zV(h:Ji)(k:Jg)(names:List String)(o:Jp)(cd:ClassData):Bool:=
 ((o.cls== .type "type")&&ro o.slots.toList&&mroOK h k cd.mro)&&(cd.hasDict&& !cd.hasDel&&h.isNs cd.ns)&&((refOf<|h.nsMap cd.ns "__init__").any λfI=>(h.get? fI).any (fnObj h names))
def iniOK(h:Ji)(K:Frag)(k:Jg)(names:List String):Bool:=
 ((h.get? k).any λo=>(clsOf o.data).any (zV h k names o))&&(findIn K (.ref k) "__setattr__"==Ja (Ja<|.builtin "object.__setattr__"))&& !names.isEmpty&&decide (names.length<=50)
def zC(h:Ji)(K:Frag)(k:Kinds):Bool:=k.inis.all λc=>k.cs.contains c&&((b0 K c).any λa=>iniOK h K a (k.flds c))
def mAsg(sc:Jk)(f:String)(e:E):Jo->Bool:=kAsg (hAttr f (hName (isLoc sc) "self")) λv=>kz v&&mE sc e v
def fnB(h:Ji)(ps:List String)(fd:Jr):Bool:=
 (h.codeRecOk fd.code fd.qualname&&fd.closure.isEmpty&&(fd.defaults== .none))&&(fd.globals==JA&&(fd.builtins==builtinsNs)&&mX ps fd.params)&&
  ((ps.all λp=>fd.scope.names.lookup (Qb p)==Ja .local||fd.scope.names.lookup (Qb p)==Ja .cell)&&decide ps.Nodup&&(fd.scope.names.all λp=>p.2 != .free))&&(!fd.scope.isCoroutine&& !fd.scope.isGenerator&&(fd.scope.kind== .function))
def qd(h:Ji)(ps:List String)(mt:Jk->List Jo->Bool)(a:Jg):Bool:=(h.get? a).any λo=>(o.cls== .type "function")&&((pQ o.data).any λfd=>(pD fd.body).any λb=>fnB h ps fd&&mt fd.scope b)
noncomputable def mAsgs(sc:Jk):List String->List E->List Jo->Bool
 |[],[],[]=>Jc
 |f::fs,e::es,y::ys=>mAsg sc f e y&&mAsgs sc fs es ys
 |_,_,_=>Jd
def initM(c:Cls)(sc:Jk)(b:List Jo):Bool:=mAsgs sc c.fs c.es b
noncomputable def ug(l:List (Option Jf)):Bool:=l==[l[0]?.getD Jb,l[1]?.getD Jb,l[2]?.getD Jb,l[3]?.getD Jb,Ja<|.builtin "object.__new__",l[5]?.getD Jb]
def xQ(h:Ji)(c:Cls)(a:Jg)(o:Jp)(cd:ClassData):Bool:=
 ((o.cls== .type "type")&&ug o.slots.toList&&(cd.mro==[.ref a,.type "object"]))&&(cd.hasDict&& !cd.hasDel&& !cd.abstract)&&(h.isNs cd.ns&&(h.nsMap cd.ns "__setattr__").isNone&&(c.fs.all λf=>(h.nsMap cd.ns<|Qb f).isNone&&(fastLookup "object" (Qb f)==Ja Jb)))&&
  ((refOf<|h.nsMap cd.ns "__init__").any (qd h ("self"::c.as)<|initM c))
def methB(h:Ji)(K:Frag)(c:Cls)(a:Jg)(t:Fn):Bool:=(!bP t.f&&(cOf t.f==c.nm))&& !(c.fs.contains (mOf t.f))&&((refOf ((findIn K (.ref a) (Qb (mOf t.f))).getD Jb)).any λm=>(typeIn K (.ref m)==Ja (.type "function"))&&qd h t.ps (λsc b=>mSs sc t.b b) m)
def clsB(h:Ji)(K:Frag)(c:Cls)(a:Jg):Bool:=
 ((h.get? a).any λo=>(clsOf o.data).any (xQ h c a o))&&((findIn K (.ref a) "__getattribute__"==Ja (Ja<|.builtin "object.__getattribute__"))&&(findIn K (.ref a) "__getattr__"==Ja Jb)&&hasDictIn K a&&(c.fs.all λf=>findIn K (.ref a) (Qb f)==Ja Jb))&&
  c.ms.all (methB h K c a)&&(decide c.fs.Nodup&&bP c.nm&&decide (c.fs.length<=50))
def wX(h:Ji)(c:Cls):List Jg:=((refOf (h.nsMap JA (Qb c.nm))).bind λa=>(h.get? a).bind λo=>(clsOf o.data).map λcd=>c.ms.filterMap λt=>refOf (h.nsMap cd.ns (Qb (mOf t.f)))).getD []
def kFrag(h:Ji)(k:Kinds):Frag:=ia h (zT h (k.cs++k.cl.map (·.nm))++k.cl.flatMap (wX h))
def clsK(h:Ji)(K:Frag)(k:Kinds):Bool:=k.cl.all λc=>(b0 K c.nm).any (clsB h K c)
noncomputable def df:Fn:=⟨"Bounds.greatest",["self","place","enough"],["counts","goal","came","raised","lowered","start","amount"],
 [.assign (.name "counts") (.bi (.dict ()) [.attr "self" "counts"]),
  .assign (.name "goal") (.tup [.glob "ROW",.sub (.loc "place") (.int 0)]),
  .while_ (.bool Jc) [.assign (.name "came") (.call "reached" [.attr "self" "near",.loc "counts",.list [.tup [.glob "COLUMN",.sub (.loc "place") (.int 1)]],.loc "place"]),.if_ (.or_ (.cmp .nin (.loc "goal") (.loc "came")) (.and_ (.notNone (.loc "enough")) (.cmp .ge (.sub (.loc "counts") (.loc "place")) (.loc "enough")))) [.ret (.tup [.loc "counts",.loc "came"])] [],.assign (.tup ["raised","lowered","start"]) (.call "way_to" [.loc "came",.loc "goal"]),.assign (.name "amount") (.bi .min [.comp (.sub (.loc "counts") (.loc "other")) (.name "other") .val [.loc "lowered"]]),.expr (.call "move" [.loc "counts",.bin .add (.loc "raised") (.list [.loc "place"]),.loc "lowered",.loc "amount"])]]⟩
noncomputable def em:Fn:=⟨"Bounds.least",["self","place","enough"],["counts","goal","came","raised","lowered","start","amount"],
 [.assign (.name "counts") (.bi (.dict ()) [.attr "self" "counts"]),
  .assign (.name "goal") (.tup [.glob "COLUMN",.sub (.loc "place") (.int 1)]),
  .while_ (.bool Jc) [.assign (.name "came") (.call "reached" [.attr "self" "near",.loc "counts",.list [.tup [.glob "ROW",.sub (.loc "place") (.int 0)]],.loc "place"]),.if_ (.or_ (.cmp .nin (.loc "goal") (.loc "came")) (.or_ (.cmp .eq (.sub (.loc "counts") (.loc "place")) (.int 0)) (.and_ (.notNone (.loc "enough")) (.cmp .le (.sub (.loc "counts") (.loc "place")) (.loc "enough"))))) [.ret (.tup [.loc "counts",.loc "came"])] [],.assign (.tup ["raised","lowered","start"]) (.call "way_to" [.loc "came",.loc "goal"]),.assign (.name "amount") (.bi .min [.comp (.sub (.loc "counts") (.loc "other")) (.name "other") .val [.bin .add (.loc "lowered") (.list [.loc "place"])]]),.expr (.call "move" [.loc "counts",.loc "raised",.bin .add (.loc "lowered") (.list [.loc "place"]),.loc "amount"])]]⟩
noncomputable def cz:Fn:=⟨"Bounds.is_given_away",["self","place","width"],["here","high"],
 [.assign (.name "here") (.sub (.attr "self" "counts") (.loc "place")),
  .assign (.name "high") (.sub (.sub (.mcall "Bounds" "Bounds.greatest" (.loc "self") [.loc "place",.bin .add (.loc "here") (.loc "width")])<|.int 0)<|.loc "place"),
  .if_ (.cmp .ge (.bin .sub (.loc "high")<|.loc "here")<|.loc "width") [.ret (.bool Jd)] [],
  .ret (.cmp .lt (.bin .sub (.loc "high") (.sub (.sub (.mcall "Bounds" "Bounds.least" (.loc "self") [.loc "place",.bin .sub (.loc "high") (.loc "width")]) (.int 0)) (.loc "place"))) (.loc "width"))]⟩
noncomputable def f_Bounds_walls:Fn:=⟨"Bounds.walls",["self","place","many_rows","many_columns"],["counts","came","low","rows","columns"],
 [.assign (.tup ["counts","came"]) (.mcall "Bounds" "Bounds.least" (.loc "self") [.loc "place",.none]),
  .assign (.name "low") (.tup [.int 0,.list [],.list []]),
  .if_ (.cmp (.gt ()) (.sub (.loc "counts")<|.loc "place")<|.int 0) [.assign (.name "low") (.tup [.sub (.loc "counts") (.loc "place"),.call "numbers_of" [.loc "came",.glob "ROW"],.call "numbers_of" [.loc "came",.glob "COLUMN"]])] [],
  .assign (.tup ["counts","came"]) (.mcall "Bounds" "Bounds.greatest" (.loc "self") [.loc "place",.none]),
  .assign (.name "rows") (.compIf (.loc "row") (.name "row") .range [.loc "many_rows"] (.cmp .nin (.tup [.glob "ROW",.loc "row"])<|.loc "came")),
  .assign (.name "columns") (.compIf (.loc "column") (.name "column") .range [.loc "many_columns"] (.cmp .nin (.tup [.glob "COLUMN",.loc "column"])<|.loc "came")),
  .ret (.tup [.loc "low",.tup [.sub (.loc "counts") (.loc "place"),.loc "rows",.loc "columns"]])]⟩
noncomputable def eM:Fn:=⟨"Hider.small",["self","place"],[],
 [.ret (.call "is_small" [.attr "self" "table",.loc "place",.attr "self" "bound"])]⟩
noncomputable def de:Fn:=⟨"Hider.bounds_of",["self","places"],["counts","row","column"],
 [.assign (.name "counts") (.dict0),
  .for_ (.tup ["row","column"]) .val [.loc "places"] [.setIdx (.loc "counts") (.tup [.loc "row",.loc "column"]) (.sub (.sub (.attr "self" "table")<|.loc "row")<|.loc "column")],
  .ret (.call "Bounds" [.loc "counts"])]⟩
noncomputable def ei:Fn:=⟨"Hider.peeled",["self","places"],["road","bounds","gone","place","low","high"],
 [.assign (.name "road") (.list []),
  .while_ (.bool Jc) [.assign (.name "bounds") (.mcall "Hider" "Hider.bounds_of" (.loc "self") [.loc "places"]),.assign (.name "gone") (.none),.for_ (.name "place") .val [.loc "places"] [.if_ (.and_ (.isNone (.loc "gone")) (.mcall "Bounds" "Bounds.is_given_away" (.loc "bounds") [.loc "place",.attr "self" "width"])) [.assign (.name "gone") (.loc "place")] []],.if_ (.isNone (.loc "gone")) [.ret (.tup [.loc "places",.loc "road"])] [],.assign (.tup ["low","high"]) (.mcall "Bounds" "Bounds.walls" (.loc "bounds") [.loc "gone",.bi .len [.attr "self" "table"],.bi .len [.sub (.attr "self" "table") (.int 0)]]),.expr (.meth (.loc "road") .append [.tup [.loc "gone",.loc "low",.loc "high"]]),.if_ (.mcall "Hider" "Hider.small" (.loc "self") [.loc "gone"]) [.ret (.tup [.none,.loc "road"])] [],.assign (.name "places") (.compIf (.loc "place") (.name "place") .val [.loc "places"] (.cmp .ne (.loc "place") (.loc "gone")))]]⟩
noncomputable def dS:Fn:=⟨"Hider.without",["self","places","place"],[],
 [.ret (.mcall "Hider" "Hider.peeled" (.loc "self") [.compIf (.loc "other") (.name "other") .val [.loc "places"] (.cmp .ne (.loc "other") (.loc "place"))])]⟩
noncomputable def er:Fn:=⟨"Hider.fewest",["self","places"],["place","fewer"],
 [.for_ (.name "place") .val [.bi .list [.loc "places"]] [.if_ (.and_ (.cmp .in_ (.loc "place") (.loc "places")) (.not_ (.mcall "Hider" "Hider.small" (.loc "self") [.loc "place"]))) [.assign (.name "fewer") (.sub (.mcall "Hider" "Hider.without" (.loc "self") [.loc "places",.loc "place"]) (.int 0)),.if_ (.notNone (.loc "fewer")) [.assign (.name "places") (.loc "fewer")] []] []],
  .ret (.loc "places")]⟩
def cls8:Cls:=⟨"Bounds",["counts"],["counts","near"],[.loc "counts",.call "near_of" [.bi .list [.loc "counts"]]],[df,em,cz,f_Bounds_walls]⟩
def cls9:Cls:=⟨"Hider",["table","bound","width"],["table","bound","width"],[.loc "table",.loc "bound",.loc "width"],[eM,de,ei,dS,er]⟩
def kinds7:Kinds:=⟨["VeilError","BadTable","BadView","BadPlace","BadNumber","NoTable","NotHidden"],["BadTable","BadView","BadPlace","BadNumber"],["NoTable","NotHidden"],λc=>cond (c=="NoTable") ["rows","columns"] (cond (c=="NotHidden") ["road"] (cond (c=="Bounds") ["counts","near"] (cond (c=="Hider") ["table","bound","width"] []))),λc d=>c==d||d=="VeilError"||d=="ValueError",[cls8,cls9]⟩
noncomputable def kD(tb:String->Option Builtin)(p:Jn)(w:Jm)(n₀:Nat)(ann:Option Jf):Nat->SharedT->Thread->Option SharedT
 |0,_,_=>Jb
 |n+1,s,t=>cond (through t) (Ja s) (cond (stepOk n₀ ann t) ((stepT (denote tb) p w s t).bind λq=>kD tb p w n₀ ann n q.1 q.2) Jb)
noncomputable def mj:List Jp->BT->Nat->Option BT
 |[],t,_=>Ja t
 |o::os,t,n=>cond ((t.ins n o).get n).isSome (mj os (t.ins n o)<|n+1) Jb
def toT(s:Je):Option SharedT:=(mj s.heap.objs.toList .nil 0).map λt=>⟨t,s.heap.objs.size,s.heap.life,s.gens,s.drawn,s.toks,s.os⟩
def jn(tb:String->Option Builtin)(p:Jn)(w:Jm)(N:Nat)(s₀:Je):Option Je:=
 match s₀.heap.isNs JA&&s₀.gens.size==0 with
 |true=>((toT s₀).bind λsT=>kD tb p w s₀.heap.objs.size (s₀.heap.nsMap JA "__annotations__") N sT (topStub p)).bind λs₁=>match staticsOk (importedModules p.main.body) s₀.heap s₁.abs.heap&&namesBound p s₁.abs.heap&&gensDone s₁.abs&&laidKept s₀.heap s₁.abs.heap with
   |true=>Ja s₁.abs
   |false=>Jb
 |false=>Jb
noncomputable def xe:Jo->Bool
 | .Assign [.Name n _] _ _=> !(n==Qb "__name__")
 |_=>Jc
def view7:Jn:={PySem.Challenge.rw_uf010011_12.prog with main:={PySem.Challenge.rw_uf010011_12.prog.main with body:=PySem.Challenge.rw_uf010011_12.prog.main.body.filter xe}}
def obsE(k:Kinds)(s:Je):Bool:=j8 (kFrag s.heap k) k&&zC s.heap (kFrag s.heap k) k&&clsK s.heap (kFrag s.heap k) k
theorem hl8(w:Jm):Wj (λs=>(openSeen view7 [] (importedModules PySem.Challenge.rw_uf010011_12.row.prog.main.body) (λs=>recOk (RowW.records (OpenRow.toRowW (OpenLaw.row PySem.Challenge.rw_uf010011_12))) s) Jc s,obsE kinds7 s)) ((fencedOpening Y2 PySem.Challenge.rw_uf010011_12.row.prog w 20000).bind (jn Y2 PySem.Challenge.rw_uf010011_12.row.prog w 20000))=Ja (openGood view7 [],Jc):=by kernel_rfl
end
noncomputable abbrev Mo(C:Cx):Model:=Jt C.prog C.w
def Kp(C:Cx)(v:Jf):Prop:=∃k,(k=Keeper.frame\/k=Keeper.machine\/k=Keeper.boundFrame)/\W.Looks (Mo C) C.B (keeperOf v) k
noncomputable def bltNames:List String:=["len","all","any","sum","abs","int","list","tuple","dict","isinstance","range","bool","min","sorted","enumerate"]
structure GOK(C:Cx)(G:Gx)(mg mb:Jq->Option Jf):Prop where
 g:C.B.Ns JA mg
 b:C.B.Ns builtinsNs mb
 nolimit:C.B.NoLimit
 blt:∀x∈bltNames,
  mg (Qb x)=Jb/\mb (Qb x)=YY (Qb x)
 glob:∀x p,G.glob x=Ja p->∃v,mg (Qb x)=Ja v/\∀σ h,VR C σ h p v
 full:G.full=Jc->C.ok
 calm:G.calm=Jc->C.calm
 fv:∀f v,bP f=Jc->C.fv f=Ja v->mg (Qb f)=Ja v
 fn:∀f,G.fn f=Jc->∃v,C.fv f=Ja v/\Kp C v
def aO(C:Cx)(n:Nat):Cl:=λf args σ Q X=>
 ∃v,C.fv f=Ja v/\Kp C v/\∀ (A:Jj) (l:List Js) (s:Je) (w:List Jf),AOK C n A l σ s.heap->Sim C σ s.heap->VRs C σ s.heap args w->
  Jh (Mo C) A (call v w) (VP C none1 σ s Q) (XP C none1 σ s X) s
section
variable{C:Cx}{A:Jj}{Er:Jf->Je->Prop}{σ:PH}{s:Je}
theorem VP.to{S:Jg->Prop}{R:Jf->Je->Prop}{E:Jf->Je->Prop}(h:Jh (Mo C) A t (VP C S σ s Q) E s)
  (k:∀v W p σ1,VR C σ1 W.heap p v->Sim C σ1 W.heap->Step S σ s.heap σ1 W.heap->Rest s W->Q p σ1->R v W)(m:∀e W,E e W->Er e W):Jh (Mo C) A t R Er s:=
 YI h (λv W z=>by obtain⟨p,σ1,a,b,c,d,e⟩:=z;exact k v W p σ1 a b c d e) m
theorem VP.here{S:Jg->Prop}{s':Je}(m:Sim C σ s.heap)(h:s'.heap=s.heap)(r:Rest s s')(hv:VR C σ s.heap p v)(q:Q p σ):VP C S σ s Q v s':=
 ⟨p,σ,by rw[h];exact hv,by rw[h];exact m,by rw[h];exact .refl _ _ _,r,q⟩
end
section
variable{C:Cx}{G:Gx}{mg mb:Jq->Option Jf}{A:Jj}{Er:Jf->Je->Prop}{env:Js}{ρ:Rho}{σ:PH}{s:Je}
theorem mc{sc:Jk}(h:isLoc sc y=Jc):sc.names.lookup y=Ja .local\/sc.names.lookup y=Ja .cell\/sc.names.lookup y=Ja .free:=by
 simp only[isLoc,Yv,beq_iff_eq] at h
 rcases h with(h|h)|h
 ·exact .inl h
 ·exact .inr<|.inl h
 ·exact .inr<|.inr h
theorem kR{Q:Jf->Je->Prop}(e:EnvR C env ρ σ s.heap)(l:isLoc env.scope (Qb x)=Jc)(d:bD (Qb x)=Jc)(hx:ρ.get x=Ja p)
  (h:∀v,VR C σ s.heap p v->Q v s):Jh (Mo C) A (Jw (.Name (Qb x) pos) env) Q Er s:=by
 simp only[bD,QV,QQ] at d;refine J5 ?_ d.1
 rcases mc l with k|k|k
 ·obtain⟨m,n,hv⟩:=e.ns;obtain⟨v,T,w⟩:=hv x p hx k;exact YS e.fn k n T<|h v w
 ·obtain⟨c,v,T,w,X⟩:=e.cell x p hx<|.inl k;exact wpAny_loadName_cell e.fn k T w<|h v X
 ·obtain⟨c,v,T,w,X⟩:=e.cell x p hx<|.inr k;exact wpAny_loadName_free e.fn k T w (h v X) d.2
theorem iN{env:Js}(h:env.scope.kind= .function)(hx:env.kindOf x=Ja .globalImplicit):loadName env x=loadGlobal env x:=by
 unfold loadName;dsimp only[Env.blockKind];rw[h,hx];rfl
theorem kc{sc:Jk}(h:glb sc x e=Jc):∃pos,e= .Name (Qb x) pos/\sc.names.lookup (Qb x)=Ja .globalImplicit/\bD (Qb x)=Jc:=by
 induction e using Expr.casesOn with
 |Name y p=>
  obtain⟨h1,h3⟩:=Qg.mp (show(Vl.Internal.nm y x&&nj sc y&&bD y)=Jc from h);obtain⟨h1,h2⟩:=Qg.mp h1;have h1:y=Qb x:=Ub h1;subst h1;exact⟨_,rfl,Ub h2,h3⟩
 |_=>exact bnx h
theorem im{Q:Jf->Je->Prop}(g:GOK C G mg mb)(e:EnvR C env ρ σ s.heap)(m:Sim C σ s.heap)
  (l:env.scope.names.lookup (Qb x)=Ja .globalImplicit)(d:bD (Qb x)=Jc)(hx:mg (Qb x)=Ja v)(h:Q v s):
  Jh (Mo C) A (Jw (.Name (Qb x) pos) env) Q Er s:=by
 simp only[bD,QV,QQ] at d;refine J5 ?_ d.1;rw[iN e.fn l];refine Calls.loadGlobal_global ?_ hx h;rw[e.glob];exact g.g.keeps m.base
theorem hS{Q:Jf->Je->Prop}(g:GOK C G mg mb)(e:EnvR C env ρ σ s.heap)(m:Sim C σ s.heap)
  (l:env.scope.names.lookup (Qb x)=Ja .globalImplicit)(d:bD (Qb x)=Jc)
  (L:x∈bltNames)
  (hx:YY (Qb x)=Ja v)(h:Q v s):
  Jh (Mo C) A (Jw (.Name (Qb x) pos) env) Q Er s:=by
 simp only[bD,QV,QQ] at d;refine J5 ?_ d.1;rw[iN e.fn l];obtain⟨T,w⟩:=g.blt x L;refine Calls.loadGlobal_builtin (v:=v) ?_ T ?_ (w.trans hx) h
 ·rw[e.glob];exact g.g.keeps m.base
 ·rw[e.blt];exact g.b.keeps m.base
end
section
variable{C:Cx}{σ:PH}{h h':Ji}
theorem Sim.lt(m:Sim C σ h)(e:σ a=Ja o):a<h.objs.size:=by obtain⟨o0,d,o0⟩:=m.objs a o e;exact QO d
theorem Sim.fresh(m:Sim C σ h)(e:h.objs.size<=a):σ a=Jb:=by
 induction q:σ a with
 |none=>rfl
 |some o=>exact absurd (m.lt q)<|Kc.mpr e
theorem Sim.freshB(m:Sim C σ h)(e:h.objs.size<=a):C.B.get? a=Jb:=by
 induction q:C.B.get? a with
 |none=>rfl
 |some o=>exact absurd (QO<|m.base a o q)<|Kc.mpr e
theorem Step.more{S:Jg->Prop}(k:∀b o,h.get? b=Ja o->h'.get? b=Ja o):Step S σ h σ h':=
 ⟨λb o e s=>⟨s,o,k b o e,λo0=> .refl o⟩,λb o e=>⟨o,e⟩,λo0 o0 e o0=>e,λb e=>by
  induction q:h.get? b with
  |none=>rfl
  |some o=>exact sn ((k b o q).symm.trans e)⟩
theorem Step.push(S:Jg->Prop)(σ:PH)(h:Ji)(W:Jp):Step S σ h σ (h.push W):= .more (λb o e=>Qz W e)
theorem Step.old{S:Jg->Prop}{h₀:Ji}(st:Step S B h₀ σ h)(m:Sim C σ h)(e:h.get? a=Jb):h₀.get? a=Jb:=by
 induction q:h₀.get? a with
 |none=>rfl
 |some o=>
  induction w:B a with
  |none=>obtain⟨o0,i,g,o0⟩:=st.keep a o q w;exact ns<|e.symm.trans g
  |some p=>obtain⟨Y,g⟩:=st.grow a p w;obtain⟨b,d,_⟩:=m.objs a Y g;exact ns<|e.symm.trans d
theorem Sim.step{S:Jg->Prop}(m:Sim C σ h)(st:Step S σ h σ h')(k:∀a o,σ a=Ja o->h'.get? a=h.get? a)(P:∀b o,C.B.get? b=Ja o->h'.get? b=Ja o):Sim C σ h' where
 base:=P
 new:=m.new
 objs:=λa o e=>by obtain⟨W,N,p⟩:=m.objs a o e;exact⟨W,(k a o e).trans N,p.step st⟩
 rich:=m.rich
theorem Sim.more(m:Sim C σ h)(k:∀b o,h.get? b=Ja o->h'.get? b=Ja o):Sim C σ h':=
 m.step (S:=none1) (.more k) (λa o e=>by obtain⟨W,N,o0⟩:=m.objs a o e;exact(k _ _ N).trans N.symm) λb o e=>k b o<|m.base b o e
theorem Sim.push(m:Sim C σ h)(W:Jp):Sim C σ (h.push W):=m.more (λb o e=>Qz W e)
theorem Sim.add{S:Jg->Prop}(m:Sim C σ h){o:PO}(st:Step S σ h (σ.set a o) h')(k:∀x o',σ x=Ja o'->h'.get? x=h.get? x)(P:∀b o,C.B.get? b=Ja o->h'.get? b=Ja o)
  (e:h'.get? a=Ja W)(b:C.B.get? a=Jb)(r:OR C (σ.set a o) h' o W)(n:o.needs C.ok a):Sim C (σ.set a o) h' where
 rich:=λx o' g=>by
  by_cases q:x=a
  ·subst q;rw[PH.set_same] at g;obtain rfl:=sj g;exact n
  ·rw[PH.set_ne _ _ q] at g;exact m.rich x o' g
 base:=P
 new:=λx o' g=>by
  by_cases q:x=a
  ·subst q;exact b
  ·rw[PH.set_ne _ _ q] at g;exact m.new x o' g
 objs:=λx o' g=>by
  by_cases q:x=a
  ·subst q;rw[PH.set_same] at g;obtain rfl:=sj g;exact⟨W,e,r⟩
  ·rw[PH.set_ne _ _ q] at g;obtain⟨v,N,p⟩:=m.objs x o' g;exact⟨v,(k x o' g).trans N,p.step st⟩
theorem Step.add{S:Jg->Prop}{h₀:Ji}(st:Step S B h₀ σ h)(o:PO)(f:h₀.get? a=Jb)(f':B a=Jb):Step S B h₀ (σ.set a o) h where
 keep:=λb W e s=>by
  obtain⟨x,i,y,z⟩:=st.keep b W e s;refine⟨?_,i,y,z⟩;rw[PH.set_ne]
  ·exact x
  ·rintro rfl;exact ns<|f.symm.trans e
 grow:=λb W e=>by
  obtain⟨i,g⟩:=st.grow b W e;by_cases q:b=a
  ·subst q;exact⟨o,PH.set_same _ _ _⟩
  ·exact⟨i,by rw[PH.set_ne _ _ q];exact g⟩
 fix:=λb o e q=>by
  rw[PH.set_ne]
  ·exact st.fix b o e q
  ·rintro rfl;exact ns<|f'.symm.trans e
 live:=st.live
theorem Sim.upd{S:Jg->Prop}(m:Sim C σ h){o o':PO}(T:σ a=Ja o)(U:o.fixed=Jd)(f:KM a h h')(e:h'.get? a=Ja l)(r:OR C σ h o' l)(n:o'.needs C.ok a:=by trivial):
  Sim C (σ.set a o') h'/\Step S σ h (σ.set a o') h':=by
 have t:Step S σ h (σ.set a o') h':=⟨λb W q s=>by
   have R:b≠a:=by rintro rfl;exact sn<|T.symm.trans s
   exact⟨by rw[PH.set_ne _ _ R];exact s,W,(f.2 b R).trans q,λo0=> .refl W⟩,
  λb W q=>by
   by_cases R:b=a
   ·subst R;exact⟨o',PH.set_same _ _ _⟩
   ·exact⟨W,by rw[PH.set_ne _ _ R];exact q⟩,
  λb W q w=>by
   have R:b≠a:=by rintro rfl;obtain rfl:=sj<|T.symm.trans q;exact ft<|U.symm.trans w
   rw[PH.set_ne _ _ R];exact q,
  λb q=>by
   by_cases R:b=a
   ·subst R;exact sn<|e.symm.trans q
   ·rw[<-f.2 b R];exact q⟩
 refine⟨⟨λb W q=> ?_,λx W q=> ?_,λx W q=> ?_,λx W q=> ?_⟩,t⟩
 ·have R:b≠a:=by rintro rfl;have:=m.new _ _ T;exact sn (q.symm.trans this)
  exact(f.2 b R).trans (m.base b W q)
 ·by_cases hx:x=a
  ·subst hx;exact m.new _ _ T
  ·rw[PH.set_ne _ _ hx] at q;exact m.new x W q
 ·by_cases hx:x=a
  ·subst hx;rw[PH.set_same] at q;obtain rfl:=sj q;exact⟨l,e,r.step t⟩
  ·rw[PH.set_ne _ _ hx] at q;obtain⟨P,N,p⟩:=m.objs x W q;exact⟨P,(f.2 x hx).trans N,p.step t⟩
 ·by_cases hx:x=a
  ·subst hx;rw[PH.set_same] at q;obtain rfl:=sj q;exact n
  ·rw[PH.set_ne _ _ hx] at q;exact m.rich x W q
end
section
variable{C:Cx}{A:Jj}{Er:Jf->Je->Prop}{σ:PH}{s:Je}
theorem VP.alloc{S:Jg->Prop}{o:PO}{W:Jp}{s':Je}(m:Sim C σ s.heap)(U:s'.heap=s.heap.push W)(r:Rest s s')(f:W.isFreed=Jd)(n:OR C σ s.heap o W)(q:wnew o σ Q)(d:o.needs C.ok s.heap.objs.size:=by trivial):
  VP C S σ s Q (.ref s.heap.objs.size) s':=by
 have t:Step S σ s.heap (σ.set s.heap.objs.size o) (s.heap.push W):=(Step.push S σ s.heap W).add o (by
  induction e:s.heap.get? s.heap.objs.size with
  |none=>rfl
  |some x=>exact absurd (QO e) (KJ _)) (m.fresh (Qy _))
 refine⟨.ref s.heap.objs.size,σ.set s.heap.objs.size o,rfl,?_,?_,r,q _<|m.fresh (Qy _)⟩
 ·rw[U];exact m.add t (λx i e=>by obtain⟨P,N,o0⟩:=m.objs x i e;exact(Qz _ N).trans N.symm) (λb o e=>Qz _<|m.base b o e) (QK _ f) (m.freshB<|Qy _) (n.step t) d
 ·rw[U];exact t
theorem VP.allocTup{S:Jg->Prop}{vs:Array Jf}{s':Je}(m:Sim C σ s.heap)(U:s'.heap=s.heap.push (tupO vs n))(r:Rest s s')(T:VRs C σ s.heap l vs.toList)(q:Q (.tup l) σ):
  VP C S σ s Q (.ref s.heap.objs.size) s':=by
 have N:=m.push<|tupO vs n;have t:=Step.push S σ s.heap<|tupO vs n;refine⟨.tup l,σ,?_,by rw[U];exact N,by rw[U];exact t,r,q⟩;rw[U];exact⟨_,n,vs,rfl,m.fresh<|Qy _,QK _ rfl,T.step t⟩
theorem VRs.append:∀ {l m:List PV} {vs ws:List Jf},VRs C σ h l vs->VRs C σ h m ws->VRs C σ h (l++m) (vs++ws)
 |[],m,vs,ws,a,b=>by change _=_ at a;subst a;exact b
 |p::l,m,vs,ws,a,b=>by
  obtain⟨v,r,rfl,N,Y⟩:=a;exact⟨v,r++ws,rfl,N,VRs.append Y b⟩
theorem VRs.length:∀ {l:List PV} {vs:List Jf},VRs C σ h l vs->vs.length=l.length
 |[]=>λa=>by change _=_ at a;subst a;rfl
 |p::l=>λa=>by
  obtain⟨v,r,rfl,N,Y⟩:=a;simp[VRs.length Y]
theorem VRs.get:∀ {l:List PV} {vs:List Jf},VRs C σ h l vs->∀ (i:Nat) (p:PV),l[i]? =Ja p->∃v,vs[i]? =Ja v/\VR C σ h p v
 |[]=>λa i p e=>by simp at e
 |q::l=>λa i p e=>by
  obtain⟨v,r,rfl,N,Y⟩:=a
  induction i using Nat.casesOn with
  |zero=>simp at e;subst e;exact⟨v,rfl,N⟩
  |succ j=>simp at e;simpa using VRs.get Y j p e
theorem VRs.of_get:∀ {l:List PV} {vs:List Jf},vs.length=l.length->(∀ (i:Nat) (p:PV) (v:Jf),l[i]? =Ja p->vs[i]? =Ja v->VR C σ h p v)->VRs C σ h l vs
 |[],vs=>λa e=>Yb.mp a
 |q::l,[]=>λa e=>by simp at a
 |q::l,v::r=>λa e=>by
  refine⟨v,r,rfl,e 0 q v rfl rfl,VRs.of_get (by simpa using a) λi p w N Y=>e (i+1) p w (by simpa using N)<|by simpa using Y⟩
theorem VRs.set{l:List PV}{vs:List Jf}(x:VRs C σ h l vs)(i:Nat)(r:VR C σ h p v):VRs C σ h (l.set i p) (vs.set i v):=by
 have T:=x.length;refine VRs.of_get (by simp[T]) λj q w N Y=> ?_;rw[KQ] at N Y;by_cases D:i=j
 ·subst D;rw[Ua rfl] at N Y
  split at N<;>split at Y<;>simp_all
 ·rw[Y9 D] at N Y;obtain⟨m,e,F⟩:=x.get j q N;obtain rfl:=sj<|Y.symm.trans e;exact F
theorem VRs.take{l:List PV}{vs:List Jf}(x:VRs C σ h l vs)(i:Nat):VRs C σ h (l.take i) (vs.take i):=by
 have T:=x.length;refine VRs.of_get (by simp[T]) λj q w N p=> ?_;rw[List.getElem?_take] at N p
 split at N
 ·rw[Ua (by assumption)] at p;obtain⟨m,e,F⟩:=x.get j q N;obtain rfl:=sj<|p.symm.trans e;exact F
 ·exact ns N
theorem VRs.drop{l:List PV}{vs:List Jf}(x:VRs C σ h l vs)(i:Nat):VRs C σ h (l.drop i) (vs.drop i):=by
 have T:=x.length;refine VRs.of_get (by simp[T]) λj q w N p=> ?_;rw[List.getElem?_drop] at N p;obtain⟨m,e,F⟩:=x.get _ q N;obtain rfl:=sj<|p.symm.trans e;exact F
end
section
variable{C:Cx}{A:Jj}{Er:Jf->Je->Prop}{σ:PH}{s:Je}{Q:Post}{n:Nat}{fr:List Js}
theorem eg(t:Tok):VR C σ h (.int i) (.int i t):=⟨t,rfl⟩
theorem fY:VR C σ h (.bool b) (.bool b):=rfl
theorem j7:VR C σ h .none .none:=rfl
inductive LstAt(C:Cx)(σ:PH)(h:Ji)(a:Jg)(l:List PV):Prop
 |mk (vs:Array Jf) (n:Nat) (e:h.get? a=Ja (lstO vs n)) (r:VRs C σ h l vs.toList):LstAt C σ h a l
theorem Sim.list(m:Sim C σ h)(e:σ a=Ja (.list l)):LstAt C σ h a l:=by
 obtain⟨o,N,v,n,rfl,p⟩:=m.objs a _ e;exact⟨v,n,N,p⟩
theorem iI{z:Int}(hz:z.natAbs<2^64):Builtin.Int.intBits z<=64:=by
 unfold Builtin.Int.intBits
 split
 ·exact QT _
 ·rename_i h
  have:z.natAbs≠0:=by simpa using h
  exact(Nat.log2_lt this).mpr hz
theorem oS{vs:Array Jf}(h:vs.toList.length=n):vs.size=n:=h
theorem xf(m:Sim C σ s.heap)(e:σ x=Ja (.list l))(e2:σ y=Ja (.list k))(w:wlist (l++k) σ Q):Jh (Mo C) A (binaryOp .Add (.ref x) (.ref y)) (VP C none1 σ s Q) Er s:=by
 obtain⟨W,X,N,f⟩:=m.list e;obtain⟨v,z,Y,r⟩:=m.list e2;have p:=oS f.length;have K:=oS r.length;have h:l.length+k.length<=1000000:=by rw[<-QG];exact w.1
 exact P.add_list N Y (VP.alloc (o:= .list (l++k)) m rfl ⟨rfl,rfl⟩ rfl ⟨_,_,rfl,by rw[Array.toList_append];exact f.append r⟩ w.2)<|by rw[p,K];exact Qn h<|by decide
theorem yV(d:mOp p o=Jc)(m:Sim C σ s.heap)(r:VR C σ s.heap a v)(D:VR C σ s.heap b q)(w:wbin p a b σ Q):
  Jh (Mo C) A (binaryOp o v q) (VP C none1 σ s Q) Er s:=by
 cases (Y8 d);have two:∀ {K:Int->Int->Prop} {o:Operator},onInt (λx=>onInt (λy=>K x y) b) a->(∀x y t u,K x y->Jh (Mo C) A (binaryOp o (.int x t)<|.int y u) (VP C none1 σ s Q) Er s)->Jh (Mo C) A (binaryOp o v q) (VP C none1 σ s Q) Er s:=λw k=>by
  obtain⟨x,e,w⟩:=dw w;obtain⟨y,g,w⟩:=dw w;subst e g;obtain⟨t,rfl⟩:=r;obtain⟨u,rfl⟩:=D;exact k x y t u w
 induction p with
 |add=>
  induction a using PV.casesOn with
  |int x=>
   obtain⟨y,rfl,w⟩:=dw w;obtain⟨t,rfl⟩:=r;obtain⟨u,rfl⟩:=D;exact P.add_int<|VP.here m rfl ⟨rfl,rfl⟩ (eg _) w
  |ref x=>
   obtain⟨o0,l,e,T,w⟩:=eN (show onL σ (λl=>onL σ (λm=>wlist (l++m) σ Q) b) (.ref x) from w);cases e;obtain⟨y,k,rfl,F,j⟩:=eN w;rw[show v= .ref x from r,show q= .ref y from D];exact xf m T F j
  |_=>exact w.elim
 |mul=>exact two w λx y t u w=>P.mul_int (VP.here m rfl ⟨rfl,rfl⟩ (eg _) w.2) (w.1.elim (λh=>IntMulOk.of_left (iI h)) λh=>IntMulOk.of_right (iI h))
 |sub=>exact two w λx y t u w=>P.sub_int<|VP.here m rfl ⟨rfl,rfl⟩ (eg _) w
 |fdiv=>exact two w λx y t u w=>PyProof.Rows.floordiv_int w.1 (VP.here m rfl ⟨rfl,rfl⟩ (eg _) w.2.2)<|.inl (PyProof.noPylong_small w.2.1)
 |mod=>exact two w λx y t u w=>PyProof.Rows.mod_int' w.1<|VP.here m rfl ⟨rfl,rfl⟩ (eg _) w.2
 |pow=>exact two w λx y t u w=>PyProof.Rows.pow_int_small w.1 (by have:=w.2.1;exact QL w.2.1 (by decide)) w.2.2.1 (VP.here m rfl ⟨rfl,rfl⟩ (eg _) w.2.2.2)
end
section
open PyProof.Rows
section
variable{C:Cx}{A:Jj}{Er:Jf->Je->Prop}{σ:PH}{s:Je}{h:Ji}
abbrev XS:=List<|List KA×Jg×Jf
structure DAt(C:Cx)(σ:PH)(h:Ji)(a:Jg)(ks:List (List KA))(l:List PV)(xs:XS):Prop where
 of:h.DictOfH (tk C.prog C.w) a xs
 ks:xs.map (·.1)=ks
 ka:∀y∈xs,KeyAt C σ h y.1 y.2.1
 v:VRs C σ h l (xs.map (·.2.2))
 sys:(a==JC)=Jd
theorem KeyAt.is(x:KeyAt C σ h k a):(tk C.prog C.w).is h k a:=by obtain⟨o0,v,m,g,i⟩:=x;exact⟨_,v,m,g,rfl,rfl,i⟩
theorem Sim.dict(m:Sim C σ h)(e:σ a=Ja (.dict ks l)):∃xs,DAt C σ h a ks l xs:=by
 obtain⟨o,g,U,p,xs,x,d,T,k,nd,E,v⟩:=m.objs a _ e;exact⟨xs,⟨o,U,p,g,x,d,T,λy W=>(E y W).is,k▸nd⟩,k,E,v,beq_eq_false_iff_ne.mpr<|m.rich a _ e⟩
theorem DAt.or{a:Jg}{ks:List (List KA)}{l:List PV}{xs:XS}{b:Jp}(x:h.DictOfH (tk C.prog C.w) a xs)(g:h.get? a=Ja b)(k:xs.map (·.1)=ks)(E:∀y∈xs,KeyAt C σ h y.1 y.2.1)(v:VRs C σ h l (xs.map (·.2.2))):OR C σ h (.dict ks l) b:=by
 obtain⟨o,U,p,e,M,W,J,o0,nd⟩:=x;obtain rfl:=sj<|g.symm.trans e;exact⟨U,p,xs,M,W,J,k,k▸nd,E,v⟩
theorem oF:∀ {l:List PV} {vs:List Jf} {k:List KA},kasOf l=Ja k->VRs C σ h l vs->ItemsAre (mk C.prog C.w) k vs
 |[],vs,k,e,r=>by change _=_ at r;subst r;obtain rfl:=sj e;exact .nil
 |p::l,vs,k,e,r=>by
  obtain⟨v,U,rfl,f,M⟩:=r;obtain⟨a,T,e⟩:=Qq.mp (show((kaOf p).bind λk=>(kasOf l).map (k:: ·))=Ja k from e);obtain⟨r,w,e⟩:=Qt.mp e;subst e;refine .cons ?_<|oF w M
  induction p using PV.casesOn with
  |int i=>obtain rfl:=sj T;obtain⟨t,rfl⟩:=f;exact t0 i t
  |str i=>obtain rfl:=sj T;obtain⟨t,rfl⟩:=f;exact tH i t
  |_=>first|exact onx T|cases T
theorem kO(e:keyOf p=Ja k)(r:VR C σ h p v):∃b,v= .ref b/\KeyAt C σ h k b:=by
 induction p using PV.casesOn with
 |tup l=>
  obtain⟨a,n,w,T,F,X,u⟩:=r;exact⟨a,T,F,w,n,X,oF e u⟩
 |_=>first|exact onx e|cases e
theorem kA:∀ {xs:XS},YW xs k=(kidx (xs.map (·.1)) k).bind λj=>xs[j]?.map (·.2)
 |[]=>rfl
 |x::xs=>by
  have i:=kA (k:=k) (xs:=xs);show((x::xs).find? λy=>decide<|y.1=k).map (·.2)=(if x.1=k then Ja 0 else(kidx (xs.map (·.1)) k).map (· +1)).bind λj=>(x::xs)[j]?.map (·.2);by_cases q:x.1=k
  ·rw[Ua q,List.find?_cons,Y6 q];rfl
  ·rw[Y9 q,List.find?_cons,Y7 q];show YW xs k=_;rw[i];cases kidx (xs.map (·.1)) k<;>rfl
theorem mn:∀ {ks:List (List KA)} {j:Nat},kidx ks k=Ja j->j<ks.length/\ks[j]? =Ja k
 |[],j,e=>by exact ns e
 |x::ks,j,e=>by
  replace e:(if x=k then Ja 0 else(kidx ks k).map (· +1))=Ja j:=e;by_cases q:x=k
  ·obtain rfl:=sj<|(Ua q).symm.trans e;exact⟨Yz _,by rw[q];rfl⟩
  ·rw[Y9 q] at e;obtain⟨i,T,rfl⟩:=Qt.mp e;obtain⟨N,p⟩:=mn T;exact⟨Yn N,p⟩
theorem DAt.look{a:Jg}{ks:List (List KA)}{l:List PV}{xs:XS}(d:DAt C σ h a ks l xs){k:List KA}:
  (klook ks l k=Jb/\YW xs k=Jb)\/X2 λp q=>A3 (klook ks l k=Ja p) (YW xs k=Ja q) (VR C σ h p q.2):=by
 rw[kA,d.ks];unfold klook
 induction e:kidx ks k with
 |none=>exact .inl ⟨rfl,rfl⟩
 |some j=>
  have H:=(mn e).1;have T:=d.v.length;rw[Qd] at T;have M:xs.length=ks.length:=by rw[<-d.ks,Qd]
  have N:j<xs.length:=by exact zq H M.symm
  have Y:j<l.length:=by exact zq H<|M.symm.trans T
  obtain⟨v,L,w⟩:=d.v.get j l[j] (Qi Y);refine .inr ⟨l[j],xs[j].2,Qi Y,by show xs[j]?.map (·.2)=_;rw[Qi N];rfl,?_⟩;rw[Qs,Qi N] at L;obtain rfl:=sj L;exact w
theorem DAt.some_{a:Jg}{ks:List (List KA)}{l:List PV}{xs:XS}(d:DAt C σ h a ks l xs){k:List KA}:(kidx ks k).isSome=(YW xs k).isSome:=by
 rw[kA,d.ks]
 induction e:kidx ks k with
 |none=>rfl
 |some j=>
  have H:=(mn e).1;have q:xs.length=ks.length:=by rw[<-d.ks,Qd]
  show Jc=(xs[j]?.map (·.2)).isSome;rw[Qi (by exact zq H q.symm)];rfl
theorem iu(u:A.units+100<Y5):(tk C.prog C.w).room A.in1:=by show A.units+1<Y5;exact zl (KL (by decide) _) u
theorem qV(k:List KA)(v:Jf):∀ {xs:XS} {j:Nat},kidx (xs.map (·.1)) k=Ja j->(xs.map (·.1)).Nodup->(xs.map (putAt k v)).map (·.2.2)=(xs.map (·.2.2)).set j v
 |[],j,e,_=>by exact ns e
 |x::xs,j,e,nd=>by
  replace e:(if x.1=k then Ja 0 else(kidx (xs.map (·.1)) k).map (· +1))=Ja j:=e;rw[Qo,Qx] at nd;by_cases q:x.1=k
  ·obtain rfl:=sj<|(Ua q).symm.trans e;rw[Qo,map_putAt_of_not_mem xs k v (q▸nd.1)];show(putAt k v x).2.2::_=v::_;rw[putAt,Ua q]
  ·rw[Y9 q] at e;obtain⟨i,T,rfl⟩:=Qt.mp e;rw[Qo];show(putAt k v x).2.2::(xs.map<|putAt k v).map (·.2.2)=x.2.2::(xs.map (·.2.2)).set i v;rw[qV k v T nd.2,putAt,Y9 q]
theorem DAt.dict_data{a:Jg}{ks:List (List KA)}{l:List PV}{xs:XS}(d:DAt C σ h a ks l xs):X3 λo es ep=>h.get? a=Ja o/\o.data= .dict es ep:=by obtain⟨o,es,ep,g,o0,q,o0⟩:=d.of;exact⟨o,es,ep,g,q⟩
theorem DAt.set{a b:Jg}{ks:List (List KA)}{l:List PV}{xs:XS}{k:List KA}{p:PV}{v:Jf}{S:Ji}(m:Sim C σ h)(e:σ a=Ja (.dict ks l))(d:DAt C σ h a ks l xs)(Y:KeyAt C σ h k b)(hv:VR C σ h p v)
  (G:S.DictOfH (tk C.prog C.w) a (storedH xs k b v))(H:KM a h S):Sim C (σ.set a<|kset ks l k p) S/\Step none1 σ h (σ.set a<|kset ks l k p) S:=by
 obtain⟨o,R,I,V,t⟩:=d.dict_data;obtain⟨i,g,c,J,M,E,x,o0,n⟩:=G;have F:(xs.map (·.1)).Nodup:=by obtain⟨o0,o0,o0,o0,o0,o0,o0,o0,q⟩:=d.of;exact q
 have r:OR C σ h (kset ks l k p) i:=by
  unfold kset
  induction q:kidx ks k with
  |none=>
   have U:YW xs k=Jb:=by rw[kA,d.ks,q];rfl
   rw[storedH_new U] at x n;refine⟨g,c,_,M,E,x,by rw[QD,d.ks];rfl,by rw[QD,d.ks] at n;exact n,λy W=> ?_,?_⟩
   ·rcases Qr.mp W with W|W
    ·exact d.ka y W
    ·cases Qj.mp W;exact Y
   ·rw[QD];exact d.v.append ⟨v,[],rfl,hv,rfl⟩
  |some j=>
   have N:(YW xs k).isSome=Jc:=by rw[<-d.some_,q];rfl
   obtain⟨K,Z⟩:=Option.isSome_iff_exists.mp N;rw[storedH_old Z] at x n;refine⟨g,c,_,M,E,x,by rw[keys_map_putAt,d.ks],d.ks▸F,λy W=> ?_,?_⟩
   ·obtain⟨z,T,rfl⟩:=Ql.mp W;have:=d.ka z T;unfold putAt;by_cases w:z.1=k
    ·rw[Ua w];exact this
    ·rw[Y9 w];exact this
   ·rw[qV k v (d.ks▸q) F];exact d.v.set j hv
 have u:(kset ks l k p).needs C.ok a:=by
  have:a≠JC:=m.rich a _ e;unfold kset;cases kidx ks k<;>exact this
 exact Sim.upd m e rfl H J r u
end
end
section
open PyProof.Rows
section
variable{C:Cx}{A:Jj}{Er:Jf->Je->Prop}{σ:PH}{s:Je}{Q:Post}{n:Nat}{fr:List Js}
mutual
theorem Rd.reads(m:Sim C σ h):∀ (d:YR) (p:PV) (v:Jf),d.canLay0=Jc->Rd σ d p->VR C σ h p v->∃as,Reads h v d as
 | .none=>λp v o0 r x=>by change _=_ at r;subst r;change _=_ at x;subst x;exact⟨_,.none⟩
 | .bool b=>λp v o0 r x=>by change _=_ at r;subst r;change _=_ at x;subst x;exact⟨_,.bool b⟩
 | .int i=>λp v o0 r x=>by change _=_ at r;subst r;obtain⟨t,rfl⟩:=x;exact⟨_,.int i t⟩
 | .str y=>λp v o0 r x=>by obtain⟨z,rfl,rfl⟩:=r;obtain⟨t,rfl⟩:=x;exact⟨_,.str _ t⟩
 | .tuple ds=>λp v c r x=>by
  obtain⟨l,rfl,r⟩:=r;obtain⟨a,n,vs,rfl,O,N,Y⟩:=x;obtain⟨as,Z⟩:=Rds.reads m ds l vs.toList (by simpa [PyData.canLay0] using c) r Y;exact⟨_,.tuple N rfl rfl Z⟩
 | .list ds=>λp v c r x=>by
  obtain⟨a,l,rfl,e,r⟩:=r;change _=_ at x;subst x;obtain⟨vs,n,N,Y⟩:=m.list e;obtain⟨as,Z⟩:=Rds.reads m ds l vs.toList (by simpa [PyData.canLay0] using c) r Y;exact⟨_,.list N rfl rfl Z⟩
 | .dict ds=>λp v c r x=>r.elim
theorem Rds.reads(m:Sim C σ h):∀ (ds:List YR) (l:List PV) (vs:List Jf),PyData.canLayAll0 ds=Jc->Rds σ ds l->VRs C σ h l vs->∃as,ReadsAll h vs ds as
 |[]=>λl vs o0 r x=>by change _=_ at r;subst r;change _=_ at x;subst x;exact⟨_,.nil⟩
 |d::ds=>λl vs c r x=>by
  obtain⟨p,ps,rfl,f,M⟩:=r;obtain⟨v,U,rfl,R,W⟩:=x;have K:d.canLay0=Jc/\PyData.canLayAll0 ds=Jc:=by simpa [PyData.canLayAll0] using c
  obtain⟨as,Z⟩:=Rd.reads m d p v K.1 f R;obtain⟨bs,D⟩:=Rds.reads m ds ps U K.2 M W;exact⟨_,.cons Z D⟩
end
theorem fi:∀ {ds:List YR},(∀d∈ds,d.canLay0=Jc)->PyData.canLayAll0 ds=Jc
 |[]=>λo0=>rfl
 |d::ds=>λh=>by simp only[PyData.canLayAll0,h d (.head _),fi λx hx=>h x (.tail _ hx),Bool.and_self]
theorem hH:∀ {ds:List YR},(∀d∈ds,d.depth<=n)->PyData.depthAll ds<=n
 |[]=>λo0=>by simp[PyData.depthAll]
 |d::ds=>λh=>by
  exact Nat.max_le.mpr ⟨h d<|.head _,hH λx hx=>h x<|.tail _ hx⟩
theorem VP.bool{S:Jg->Prop}{K:Bool->PH->Prop}(m:Sim C σ s.heap)(q:K b σ):VP C S σ s (λv σ'=>∃b,v= .bool b/\K b σ') (.bool b) s:=
 VP.here m rfl (Rest.refl s) fY ⟨b,rfl,q⟩
theorem tB{K:Bool->PH->Prop}{f:Bool->Bool}(m:Sim C σ s.heap)(Z:VR C σ s.heap a M)(r:VR C σ s.heap b q)(w:onD σ (λks o0=>oK (λk=>K (f (kidx ks k).isSome) σ) (keyOf a)) b)
  (k:∀E d xs i,(tk C.prog C.w).is s.heap i E->(d==JC)=Jd->s.heap.DictOfH (tk C.prog C.w) d xs->(∀tk,VP C none1 σ s (λv σ'=>∃b,v= .bool b/\K b σ') (.bool (f (YW xs i).isSome)) {s with toks:=tk})->
   Jh (Mo C) A (YT o (.ref E) (.ref d)) (VP C none1 σ s λv σ'=>∃b,v= .bool b/\K b σ') Er s):Jh (Mo C) A (YT o M q) (VP C none1 σ s λv σ'=>∃b,v= .bool b/\K b σ') Er s:=by
 obtain⟨d,ks,l,rfl,e,j⟩:=iC w;obtain⟨i,x,B⟩:=iQ j;obtain⟨xs,D⟩:=m.dict e;obtain⟨P,rfl,h⟩:=kO x Z;change _=_ at r;subst r;refine k P d xs i h.is D.sys D.of λtk=> ?_;exact VP.here (s:=s) m rfl ⟨rfl,rfl⟩ fY ⟨_,rfl,by rw[<-D.some_];exact B⟩
theorem yv(ho:mC op o=Jc){K:Bool->PH->Prop}(m:Sim C σ s.heap)(hu:A.units+100<Y5)(ra:VR C σ s.heap a va)(rb:VR C σ s.heap b vb)(w:wcmp op a b σ K):
  Jh (Mo C) A (YT o va vb) (VP C none1 σ s λv σ'=>∃b,v= .bool b/\K b σ') Er s:=by
 cases (Y8 ho);have two:∀ {f:Int->Int->Bool} {o:CmpOp},wrel f a b σ K->(∀x y t u,K (f x y) σ->Jh (Mo C) A (YT o (.int x t)<|.int y u) (VP C none1 σ s λv σ'=>∃b,v= .bool b/\K b σ') Er s)->Jh (Mo C) A (YT o va vb) (VP C none1 σ s λv σ'=>∃b,v= .bool b/\K b σ') Er s:=λw k=>by
  obtain⟨x,e,w⟩:=dw w;obtain⟨y,e',w⟩:=dw w;subst e e';obtain⟨t,rfl⟩:=ra;obtain⟨u,rfl⟩:=rb;exact k x y t u w
 have inn:∀ {K':Bool->PH->Prop},onL σ (λl=>X2 λc ds=>A5 (Rd σ c a) (Rds σ ds l) (okD c) ((∀d∈ds,okD d))<|K' (ds.any λd=>PyData.eqv d c) σ) b->X4 λc ds as bs=>A6 (Reads s.heap vb (.list ds) bs) (Reads s.heap va c as) (PyData.canLayAll0 ds=Jc) (c.canLay0=Jc) ((A.units+min (PyData.depthAll ds) c.depth+2<Y5)) (K' (ds.any λd=>PyData.eqv d c) σ):=λw=>by
  obtain⟨r,l,rfl,e,c,ds,r1,r2,k1,k2,w⟩:=eN w;obtain⟨as,q1⟩:=Rd.reads m c a va k1.1 r1 ra;obtain⟨bs,q2⟩:=Rd.reads m (.list ds) (.ref r) vb (fi λd hd=>(k2 d hd).1) ⟨r,l,rfl,e,r2⟩ rb;have h1:=hH λd hd=>(k2 d hd).2;exact⟨c,ds,as,bs,q2,q1,fi λd hd=>(k2 d hd).1,k1.1,by exact zmn2 hu h1,w⟩
 induction op with
 |eq=>
  obtain⟨c,d,r1,r2,k1,k2,w⟩:=w;obtain⟨as,q1⟩:=Rd.reads m c a va k1.1 r1 ra;obtain⟨bs,q2⟩:=Rd.reads m d b vb k2.1 r2 rb;have:=k1.2;exact SeqAt.compareEq_reads q1 q2 k1.1 k2.1 (by exact zmn hu this)<|VP.bool m w
 |ne=>
  obtain⟨c,d,r1,r2,k1,k2,w⟩:=w;obtain⟨as,q1⟩:=Rd.reads m c a va k1.1 r1 ra;obtain⟨bs,q2⟩:=Rd.reads m d b vb k2.1 r2 rb;exact SeqAt.compareNe_shaped q1 q2 (Qg.mpr ⟨k1.1,Y6<|zb2 k1.2 rfl⟩) (Qg.mpr ⟨k2.1,Y6<|zb2 k2.2 rfl⟩) (by exact zl (KL (by decide) _) hu)<|VP.bool m w
 |lt=>exact two w λx y t u w=>P.lt_int<|VP.bool m w
 |le=>exact two w λx y t u w=>P.le_int<|VP.bool m w
 |gt=>exact two w λx y t u w=>P.gt_int<|VP.bool m w
 |ge=>exact two w λx y t u w=>P.ge_int<|VP.bool m w
 |in_=>
  rcases w with w|w
  ·exact tB (f:=id) m ra rb w λka d xs kk h1 h2 h3 h4=>wpAny_in_heap (iu hu) h1 h2 h3<|h4 _
  obtain⟨c,ds,as,bs,q2,q1,h1,h2,h3,w⟩:=inn w;exact SeqAt.in_list_reads q2 q1 h1 h2 (by exact zr4 h3)<|VP.bool m w
 |nin=>
  rcases (show onD σ (λks o0=>oK (λk=>K (!(kidx ks k).isSome) σ)<|keyOf a) b\/_ from w) with w|w
  ·exact tB (f:=not) m ra rb w λka d xs kk h1 h2 h3 h4=>wpAny_notIn_heap (iu hu) h1 h2 h3<|h4 _
  obtain⟨c,ds,as,bs,q2,q1,h1,h2,h3,w⟩:=inn (K':=λr σ=>K (!r) σ) w;exact SeqAt.notIn_list_reads q2 q1 h1 h2 (by exact zr4 h3)<|VP.bool m w
end
end
section
open PyProof.Rows
section
variable{C:Cx}{A:Jj}{Er:Jf->Je->Prop}{σ:PH}{s:Je}{Q:Post}{n:Nat}{fr:List Js}
theorem VP.kept{S:Jg->Prop}{s':Je}(m:Sim C σ s.heap)(k:∀b o,s.heap.get? b=Ja o->s'.heap.get? b=Ja o)(r:Rest s s')(hv:VR C σ s.heap p v)(q:Q p σ):VP C S σ s Q v s':=
 ⟨p,σ,hv.step<|Step.more (S:=none1) k,m.more k,.more k,r,q⟩
theorem VP.keptNew{S:Jg->Prop}{o:PO}{s':Je}(m:Sim C σ s.heap)(k:∀b o,s.heap.get? b=Ja o->s'.heap.get? b=Ja o)(r:Rest s s')(g:s.heap.get? a=Jb)
  (e:s'.heap.get? a=Ja W)(T:∀σ',Step S σ s.heap σ' s'.heap->OR C σ' s'.heap o W)(q:wnew o σ Q)(d:o.needs C.ok a):VP C S σ s Q (.ref a) s':=by
 have E:σ a=Jb:=by
  induction h:σ a with
  |none=>rfl
  |some p=>obtain⟨W,N,o0⟩:=m.objs a p h;exact ns<|g.symm.trans N
 have R:C.B.get? a=Jb:=by
  induction h:C.B.get? a with
  |none=>rfl
  |some p=>have:=m.base a p h;exact ns<|g.symm.trans this
 have t:Step S σ s.heap (σ.set a o) s'.heap:=(Step.more k).add o g E;exact⟨.ref a,σ.set a o,rfl,m.add t (λx i e=>by obtain⟨P,N,o0⟩:=m.objs x i e;exact(k _ _ N).trans N.symm) (λb o e=>k b o<|m.base b o e) e R (T _ t) d,t,r,q a E⟩
theorem ku(h:Ji):h.get? h.objs.size=Jb:=by
 induction e:h.get? h.objs.size with
 |none=>rfl
 |some x=>exact absurd (QO e)<|KJ _
theorem VRs.ints:∀ {l:List PV} {is:List Int} {vs:List Jf},dQ l=Ja is->VRs C σ h l vs->∀ (i:Nat) (v:Jf),vs[i]? =Ja v->∃t,v= .int (is.getD i 0) t
 |[]=>λe r i v hv=>by change _=_ at r;subst r;simp at hv
 | .int k::l=>λe r i v hv=>by
  replace e:=Qt.mp e;obtain⟨j,T,rfl⟩:=e;obtain⟨w,ws,rfl,f,M⟩:=r
  induction i using Nat.casesOn with
  |zero=>simp at hv;subst hv;exact f
  |succ i=>simp at hv;simpa using VRs.ints T M i v hv
 | .none::l=>λe r i v hv=>onx e
 | .bool b::l=>λe r i v hv=>onx e
 | .str b::l=>λe r i v hv=>onx e
 | .tup b::l=>λe r i v hv=>onx e
 | .ref b::l=>λe r i v hv=>onx e
 | .scr b::l=>λe r i v hv=>onx e
theorem ec:∀ {l:List PV} {is:List Int},dQ l=Ja is->is.length=l.length
 |[]=>λe=>by obtain rfl:=sj e;rfl
 | .int k::l=>λe=>by
  replace e:=Qt.mp e;obtain⟨j,T,rfl⟩:=e;simp[ec T]
 | .none::l=>λe=>onx e
 | .bool b::l=>λe=>onx e
 | .str b::l=>λe=>onx e
 | .tup b::l=>λe=>onx e
 | .ref b::l=>λe=>onx e
 | .scr b::l=>λe=>onx e
theorem VRs.bools:∀ {l:List PV} {is:List Bool} {vs:List Jf},fF l=Ja is->VRs C σ h l vs->is.length=l.length/\∀ (i:Nat) (v:Jf),vs[i]? =Ja v->v= .bool (is.getD i Jd)
 |[]=>λe r=>by obtain rfl:=sj e;change _=_ at r;subst r;simp
 | .bool k::l=>λe r=>by
  replace e:=Qt.mp e;obtain⟨j,T,rfl⟩:=e;obtain⟨w,ws,rfl,f,M⟩:=r;obtain⟨P,U⟩:=VRs.bools T M;refine⟨by simp[P],λi v hv=> ?_⟩
  induction i using Nat.casesOn with
  |zero=>simp at hv;subst hv;exact f
  |succ i=>simp at hv;simpa using U i v hv
 | .none::l=>λe r=>onx e
 | .int b::l=>λe r=>onx e
 | .str b::l=>λe r=>onx e
 | .tup b::l=>λe r=>onx e
 | .ref b::l=>λe r=>onx e
 | .scr b::l=>λe r=>onx e
theorem jZ:∀ (is:List Int) (n:Nat),n<=is.length->preSum (λi=>is.getD i 0) n=(is.take n).sum
 |is,0=>λo0=>by simp[preSum]
 |is,n+1=>λh=>by
  rw[preSum,jZ is n<|by exact Kh h,List.take_add_one,WV];have:is[n]? =Ja is[n]:=Qi (by exact h);simp[List.getD,this]
theorem rO(bs:List Bool):((Qc bs.length).all λi=>bs.getD i Jd)=bs.all id:=by
 rw[Kn];simp only[Qv,Qf,id]
 constructor
 ·intro h b R;obtain⟨i,t,rfl⟩:=Wi R;have:=h i t
  simpa [List.getD,t] using this
 ·intro h i t;have:=h bs[i] (Wo t)
  simpa [List.getD,t] using this
theorem jG{R:Jf->Je->Prop}(T:s.heap.get? l=Ja (lstO vs k))
  (h:∀I,I=s.heap.objs.size->l≠I->(s.heap.push {cls:= .type "list_iterator",data:= .fields #[.ref l,.int 0 0]}).IsListIter I l 0->
   (s.heap.push {cls:= .type "list_iterator",data:= .fields #[.ref l,.int 0 0]}).IsList l vs->R (.ref I) {s with heap:=s.heap.push {cls:= .type "list_iterator",data:= .fields #[.ref l,.int 0 0]}}):
  Jh (Mo C) A (YQ<|.ref l) R Er s:=
 wpAny_pyIter_list ⟨_,T,rfl,k,rfl⟩ (h _ rfl (WZ<|QO T) ⟨_,QK _ rfl,rfl,rfl⟩ ⟨_,Qz _ T,rfl,k,rfl⟩)
theorem tF{h:Ji}(p:I=h.objs.size)(N:h.get? a=Ja o)(R:b∈ [I,a]):b<(h.push o').objs.size:=by
 rw[KN]
 rcases Qw.mp R with rfl|R
 ·rw[p];exact QN _
 ·rw[Qj.mp R];exact Wy<|QO N
theorem mG{h:Ji}(p:I=h.objs.size)(e:h.get? b=Ja o):b∉ [I]:=λq=>by
 rw[Qj.mp q,p,ku] at e;exact ns e
theorem zn{is:List Int}(U:A.handled=Jb)(m:Sim C σ s.heap)(e:σ a=Ja (.list l))(hi:dQ l=Ja is)(q:Q (.int is.sum) σ):
  Jh (Mo C) A (call (.builtin "sum") [.ref a]) (VP C none1 σ s Q) Er s:=by
 obtain⟨J,k,N,Y⟩:=m.list e;refine call_sum_walkAnyS (jG N λI p h t T=> ?_);have g:J.size=is.length:=by rw[ec hi];simpa using Y.length
 refine⟨I,_,_,_,_,_,_,λi=>is.getD i 0,rfl,(Walks.list (prog:=C.prog) (w:=C.w) (A:=A.in1) U I a h J).toS,⟨t,T⟩,?_,?_,λG y mv=> ?_⟩
 ·exact λb R=>tF p N R
 ·intro i v hv;exact VRs.ints hi Y i v<|by simpa using hv
 ·rw[g,jZ is _<|Qy _,Yj (Qy _)];refine VP.kept m (λb o Z=>mv.heap b o (mG p Z)<|Qz _ Z) ⟨mv.gens,mv.os⟩ (eg _) q
theorem zx{bs:List Bool}(U:A.handled=Jb)(m:Sim C σ s.heap)(e:σ a=Ja (.list l))(hi:fF l=Ja bs)(q:Q (.bool (bs.all id)) σ):
  Jh (Mo C) A (call (.builtin "all") [.ref a]) (VP C none1 σ s Q) Er s:=by
 obtain⟨J,k,N,p⟩:=m.list e;refine call_all_walk (jG N λI H h t T=> ?_);obtain⟨d,V⟩:=VRs.bools hi p;have g:J.size=bs.length:=by rw[d];simpa using p.length
 refine⟨I,_,_,_,_,_,λi=>bs.getD i Jd,rfl,Walks.list (prog:=C.prog) (w:=C.w) (A:=A.in1) U I a h J,⟨t,T⟩,?_,λS tk M=> ?_⟩
 ·intro i v G r E hv X;rw[V i v (by simpa using hv)];exact wpAny_truthy_bool X
 ·rw[g,rO];refine VP.kept m (λb o Z=>M b o (mG H Z)<|Qz _ Z) ⟨rfl,rfl⟩ fY q
set_option tactic.hygienic true in
theorem yI(m:Sim C σ s.heap)(r:VR C σ s.heap p v)(e:plen σ p=Ja k)(M:k<=lim)(q:Q (.int k) σ):
  Jh (Mo C) A (call (.builtin "len") [v]) (VP C none1 σ s Q) Er s:=by
 have R:k<=1000000:=M
 induction p using PV.casesOn with
 |ref a=>
  change _=_ at r;subst r;obtain⟨l,T,rfl⟩:=uK (show lenO (σ a)=Ja k from e);obtain⟨w,j,N,Y⟩:=m.list T;have h:w.size=l.length:=by simpa using Y.length
  refine Calls.call_len_list ⟨_,N,rfl,j,rfl⟩ (by rw[h];exact zi3 R) ?_;rw[h];exact VP.here m rfl ⟨rfl,rfl⟩ (eg _) q
 |tup l=>
  obtain rfl:=sj e;obtain⟨a,j,w,rfl,W,N,Y⟩:=r;have h:w.size=l.length:=by simpa using Y.length
  refine P.len_tuple N (by rw[h];exact Yh.mpr<|zi3 R) ?_;rw[h];exact VP.here m rfl ⟨rfl,rfl⟩ (eg _) q
 |scr l=>
  obtain rfl:=sj e;obtain⟨a,o,j,w,rfl,N,Y,J,h,o0⟩:=r;refine Calls.call_len_list ⟨_,m.base _ _ N,Y,j,J⟩ (by rw[h];exact zi3 R) ?_;rw[h];exact VP.here m rfl ⟨rfl,rfl⟩ (eg _) q
 |_=>exact ns e
theorem ij:∀ {is:List Int},is≠ []->lmin is∈is/\∀a∈is,lmin is<=a
 |x::r,_=>by
  have key:∀ (r:List Int) (x:Int),(r.foldl min x=x\/r.foldl min x∈r)/\r.foldl min x<=x/\∀a∈r,r.foldl min x<=a:=by
   intro r
   induction r with
   |nil=>intro x;exact⟨.inl rfl,QX _,λa T=>(bQ T)⟩
   |cons y r i=>
    intro x;obtain⟨N,p,J⟩:=i<|min x y;refine⟨?_,QL p<|Int.min_le_left _ _,λa T=> ?_⟩
    ·rcases N with N|N
     ·show r.foldl min (min x y)=x\/r.foldl min (min x y)∈y::r;rw[N]
      rcases Int.le_total x y with q|q
      ·exact .inl<|Int.min_eq_left q
      ·rw[Int.min_eq_right q];exact .inr<|.head _
     ·exact .inr<|.tail _ N
    ·cases T with
     |head=>exact QL p<|Int.min_le_right _ _
     |tail _ T=>exact J a T
  obtain⟨N,p,J⟩:=key r x;refine⟨N.elim (λh=>by show r.foldl min x∈x::r;rw[h];exact .head _)<|.tail _,λa T=> ?_⟩;cases T with
  |head=>exact p
  |tail _ T=>exact J a T
theorem wL{is:List Int}(h:M∈is)(p:∀a∈is,M<=a):lmin is=M:=by
 obtain⟨k,U⟩:=ij (is:=is) (λq=>by rw[q] at h;cases h);exact WU (U M h)<|p _ k
theorem zr{is:List Int}(f:A.handled=Jb)(m:Sim C σ s.heap)(e:σ a=Ja (.list l))(hi:dQ l=Ja is)(U:is≠ [])(q:Q (.int (lmin is)) σ):
  Jh (Mo C) A (call (.builtin "min") [.ref a]) (VP C none1 σ s Q) Er s:=by
 obtain⟨J,k,Y,p⟩:=m.list e;refine call_min_walk (jG Y λI H R L T=> ?_);have g:J.size=is.length:=by rw[ec hi];exact p.length
 have h:0<is.length:=List.length_pos_iff.mpr U;refine⟨I,_,_,_,_,_,_,rfl,Walks.list (prog:=C.prog) (w:=C.w) (A:=A.in1) f I a R J,⟨L,T⟩,?_,g▸h,CmpOf.ints_lt (λi=>is.getD i 0)<|λi v hv=>VRs.ints hi p i v<|by simpa using hv,λv W tk P M=> ?_⟩
 ·exact λb S=>tF H Y S
 ·obtain⟨t,rfl⟩:=VRs.ints hi p _ v (by simpa using P);obtain⟨d,V⟩:=argBest_lt (λi=>is.getD i 0)<|J.size-1;have N:argBest (λi j=>decide<|is.getD i 0<is.getD j 0) (J.size-1)<is.length:=by exact zl d (zq (Nat.sub_lt (zq h g.symm) Nat.one_pos) g)
  have u:is.getD (argBest (λi j=>decide<|is.getD i 0<is.getD j 0)<|J.size-1) 0∈is:=by
   rw[List.getD_eq_getElem?_getD,Qi N];exact Wo N
  rw[wL u λx hx=> ?_] at q
  ·refine VP.kept m (λb o Z=>M b o (mG H Z)<|Qz _ Z) ⟨rfl,rfl⟩ (eg _) q
  ·obtain⟨j,E,rfl⟩:=Wi hx;have:=V j (by exact Nat.le_sub_one_of_lt<|zq E g.symm);rw[List.getD_eq_getElem?_getD (i:=j),Qi E] at this;exact this
theorem qP{vs:Array Jf}(Y:T="list"\/T="tuple")(m:Sim C σ s.heap)(N:s.heap.get? a=Ja {cls:= .type T,data:= .seq vs k})(p:VRs C σ s.heap l vs.toList)
  (hz:Okl l) (q:wnew (.list l) σ Q):Jh (Mo C) A (call (.type "list") [.ref a]) (VP C none1 σ s Q) Er s:=by
 have g:vs.size=l.length:=by simpa using p.length
 have h:l.length<=1000000:=hz;refine call_list_seq a Y N rfl rfl (λS c M e=> ?_) (by simp[JJ];exact zle (QU g)<|zb2 h rfl);exact VP.keptNew (o:= .list l) m M ⟨rfl,rfl⟩ (ku _) e (λX t=>⟨vs,c,rfl,p.step t⟩) q trivial
theorem qG:∀ {xs:XS},(∀y∈xs,KeyAt C σ h y.1 y.2.1)->VRs C σ h ((xs.map (·.1)).map keyPV) (xs.map λy=> .ref y.2.1)
 |[]=>λo0=>rfl
 |x::xs=>λk=>by
  obtain⟨n,w,m,g,i⟩:=k x<|.head _;refine⟨_,_,rfl,⟨_,m,w,rfl,n,g,?_⟩,qG λy W=>k y<|.tail _ W⟩;clear g;show VRs C σ h (x.1.map KA.pv) w.toList;generalize w.toList=l at i ⊢;generalize x.1=D at i ⊢
  induction i with
  |nil=>exact rfl
  |@cons a v L w N _ F=>
   refine⟨v,w,rfl,?_,F⟩
   induction a with
   |n j=>exact gj N
   |t s=>exact gc N
theorem tA{ks:List (List KA)}(f:A.handled=Jb)(m:Sim C σ s.heap)(e:σ a=Ja (.dict ks l))(hz:Okl (ks.map keyPV))(q:wnew (.list (ks.map keyPV)) σ Q):
  Jh (Mo C) A (call (.type "list") [.ref a]) (VP C none1 σ s Q) Er s:=by
 obtain⟨P,D⟩:=m.dict e;obtain⟨o,U,p,g,M,S,x,o0⟩:=D.of;have r:U.size=ks.length:=by rw[J7 x,<-D.ks,Qd]
 refine W.kdl_call (wO (es:=U) (ep:=p) D.sys) f ⟨o,g,M,S⟩ (by rw[r,JU];have:(ks.map keyPV).length<=1000000:=hz;rw[Qd] at this;exact zb2 this rfl) λR tk c K k d h=> ?_;refine VP.keptNew (o:= .list (ks.map keyPV)) m k ⟨rfl,rfl⟩ (ku _) d (λY X=>⟨c,K,rfl,?_⟩) q trivial;have:c.toList=P.map λy=> .ref y.2.1:=by
  refine Wz λi=> ?_;rw[Array.getElem?_toList,Qs];by_cases t:i<c.size
  ·obtain⟨N,T,w⟩:=h.2 i c[i] (Kk t);rw[entry_at x] at T;obtain⟨y,E,u⟩:=Qt.mp T;rw[Kk t,E,w,<-u];rfl
  ·have B:P.length<=i:=by rw[<-J7 x];have:=h.1;exact zle (QU this.symm) (Kc.mp t)
   rw[Yi (Kc.mp t),KW B];rfl
 rw[this,<-D.ks];exact(qG D.ka).step X
theorem pc:∀ {l:List PV} {is:List Int} {vs:List Jf},dQ l=Ja is->VRs C σ h l vs->IntsAre vs is
 |[],is,vs,e,r=>by change _=_ at r;subst r;obtain rfl:=sj e;exact .nil
 |p::l,is,vs,e,r=>by
  obtain⟨v,U,rfl,f,M⟩:=r
  induction p using PV.casesOn with
  |int i=>
   obtain⟨j,T,rfl⟩:=Qt.mp (show(dQ l).map (i:: ·)=Ja is from e);obtain⟨t,rfl⟩:=f;exact .cons i t<|pc T M
  |_=>first|exact onx e|cases e
theorem vG:∀ {is:List Int} {vs:List Jf},IntsAre vs is->VRs C σ h (is.map .int) vs:=λr=>by
 induction r with
 |nil=>rfl
 |cons i t r W=>exact⟨_,_,rfl,⟨t,rfl⟩,W⟩
theorem sz{is:List Int}(m:Sim C σ s.heap)(e:σ a=Ja (.list l))(hi:dQ l=Ja is)(T:is.length<64)(q:∀j:List Int,j.Perm is->j.Pairwise (· <= ·)->wlist (j.map .int) σ Q):
  Jh (Mo C) A (call (.builtin "sorted") [.ref a]) (VP C none1 σ s Q) Er s:=by
 obtain⟨v,k,N,h⟩:=m.list e;have g:v.toList.length=is.length:=by rw[ec hi];exact h.length
 refine sorted_ints (vs:=v.toList) (ns:=is) (by rw[Array.toArray_toList];exact⟨_,N,rfl,k,rfl⟩) (pc hi h) (by exact zl (QU g) T) λu f F L H=> ?_;obtain⟨S,O⟩:=sortedAll_at s.heap v.toList u;exact VP.keptNew (o:= .list (f.map .int)) m (λo0 o0=>sortedAll_old) ⟨rfl,rfl⟩ (WI<|Wf _) O (λX t=>⟨_,S,rfl,vG F⟩) (q f L H).2 trivial
end
end
section
open PySem.MeetsSeq PySem.SeqAt PySem.AutoSeq1
theorem wo(l:Jg)(t:Array Jf)(n:Nat)(x:Jf)(e:Jf->Bool)(j:Nat)(H:j<t.size)(L:e t[j]=Jc)(hz:t.size<=JJ):∀k i:Nat,i+k=j->(∀m (D:m<t.size),i<=m->m<j->e t[m]=Jd)->
  Meets (Builtin.«list.remove.loop» ⟨[.ref l,x,Jx i],[]⟩) (λA R s=>s.heap.get? l=Ja (lstO t n)/\(∀y,y∈t->EqAt A.in1 s y x (e y))/\R (.ok<|.ret .none) {s with heap:=s.heap.update l (Obj.mapSeq λxs=>xs.eraseIdxIfInBounds j)}):=by
 intro k
 induction k with
 |zero=>
  intro i q o p w A R s h;obtain⟨K,g,d,tk,c⟩:=s;obtain⟨T,O,h⟩:=h;obtain rfl:i=j:=q
  wp_walk using wpAny_loadPart' T
  rw[show t[((i:Nat):Int).toNat]? =Ja t[i] from Kk H];refine YG<|O _ (Array.getElem_mem H) p w _ _ ?_;rw[L]
  wp_walk using (wpAny_updateSeq T rfl (hz:=hz) (_hz':=Qn (size_erased t _)<|WA hz)),wpAny_loadPart' T
  exact h
 |succ k W=>
  intro i q o p w A R s h;obtain⟨K,g,d,tk,c⟩:=s;obtain⟨T,O,h⟩:=h;have N:i<j:=q▸Nat.lt_add_of_pos_right (Yz k);have V:i<t.size:=Nat.lt_trans N H
  wp_walk using wpAny_loadPart' T
  rw[show t[((i:Nat):Int).toNat]? =Ja t[i] from Kk V];refine YG<|O _ (Array.getElem_mem V) p w _ _ ?_;rw[o i V (Qy _) N]
  wp_walk
  exact⟨plainId_quiet plain_remove_loop _,codeAny_builtin entry_remove_loop (by
   rw[Around.under_plainId plain_remove_loop _];exact W (i+1) (by rw[<-q,QI];rfl) (λm D E Y=>o m D (Kh E) Y) p w A R _ ⟨T,O,h⟩)⟩
theorem Av(l:Jg)(i:Array Jf)(n:Nat)(x:Jf)(e:Jf->Bool)(j:Nat)(H:j<i.size)(t:e i[j]=Jc)(o:∀m (L:m<i.size),m<j->e i[m]=Jd)(hz:i.size<=JJ):
  Meets (Builtin.«list.remove» ⟨[.ref l,x],[]⟩) (λA R s=>s.heap.get? l=Ja (lstO i n)/\(∀y,y∈i->EqAt A.in1 s y x (e y))/\R (.ok<|.ret .none) {s with heap:=s.heap.update l (Obj.mapSeq λxs=>xs.eraseIdxIfInBounds j)}):=by
 intro p w A R s h;obtain⟨D,g,d,tk,c⟩:=s;obtain⟨T,O,h⟩:=h
 wp_walk using wpAny_loadPart' T
 exact⟨plainId_quiet plain_remove_loop _,codeAny_builtin entry_remove_loop (by
  rw[Around.under_plainId plain_remove_loop _];exact wo l i n x e j H t hz j 0 (KR j) (λm L o0 Y=>o m L Y) p w A R _ ⟨T,O,h⟩)⟩
end
section
variable{C:Cx}{A:Jj}{Er:Jf->Je->Prop}{σ:PH}{s:Je}{Q:Post}
theorem VRs.eraseIdx:∀ {l:List PV} {vs:List Jf},VRs C σ h l vs->∀j:Nat,VRs C σ h (l.eraseIdx j) (vs.eraseIdx j)
 |[],vs,r,j=>by obtain rfl:vs=[]:=r;exact rfl
 |p::l,vs,r,j=>by
  obtain⟨v,u,rfl,f,M⟩:=r
  induction j using Nat.casesOn with
  |zero=>exact M
  |succ j=>exact⟨v,u.eraseIdx j,rfl,f,VRs.eraseIdx M j⟩
theorem rV{l:List PV}{ds:List YR}(I:A.units+100<Y5)(m:Sim C σ s.heap)(e:σ a=Ja (.list l))(Y:VR C σ s.heap p v)(U:Rd σ c p)(G:Rds σ ds l)(P:okD c)(k:∀d∈ds,okD d)(B:l.length<=lim)(E:ds.findIdx? (λd=>PyData.eqv d c)=Ja j)
  (q:Q .none (σ.set a<|.list (l.eraseIdx j))):Jh (Mo C) A (call (.builtin "list.remove") [.ref a,v]) (VP C none1 σ s Q) Er s:=by
 obtain⟨w,n,g,X⟩:=m.list e;have Z:=fi λd W=>(k d W).1;obtain⟨o,f⟩:=Rd.reads m c p v P.1 U Y;obtain⟨bs,r⟩:=Rd.reads m (.list ds) (.ref a) (.ref a) Z ⟨a,l,rfl,e,G⟩ rfl;cases r with
 |list D h2 H T=>
  obtain rfl:=sj<|g.symm.trans D;cases H;have L:w.toList.map (SeqAt.readOf s.heap)=ds:=SeqAt.readsAll_map ds _ _ Z T;obtain⟨K,M,O⟩:=List.findIdx?_eq_some_iff_getElem.mp E;have t:ds.length=w.size:=by rw[<-L,Qd,YB]
  have at_:∀i (h:i<w.size) (R:i<ds.length),SeqAt.readOf s.heap w[i]=ds[i]:=λi h R=>by
   have z:(w.toList.map<|SeqAt.readOf s.heap)[i]'(by rw[L];exact R)=ds[i]:=by simp only[L]
   rw[Yo,Array.getElem_toList] at z;exact z
  have J:w.size<=JJ:=by
   have:w.size=l.length:=X.length;rw[this,JU];exact Qn B<|by decide
  refine call_meets F.slot_list_remove ⟨_,g,rfl⟩ F.entry_list_remove (F.args_list_remove_2 _ _) (Av a w n v (λy=>PyData.eqv (SeqAt.readOf s.heap y) c) j (t▸K) (by rw[at_ j _ K];exact M) (λi V N=>by rw[at_ i V (t▸V)];exact WC.mpr<|O i N) J)
   ⟨g,SeqAt.items_eqAt T f Z P.1<|by exact zr4<|zmn2 I (hH λd W=>(k d W).2),?_⟩
  have N:j<w.size:=t▸K;obtain⟨b,u⟩:=Sim.upd (S:=none1) (o':= .list (l.eraseIdx j)) m e rfl (KM.update s.heap a (Obj.mapSeq λx=>x.eraseIdxIfInBounds j)) (QY _ g rfl) ⟨w.eraseIdxIfInBounds j,_,rfl,by
   rw[show(w.eraseIdxIfInBounds j).toList=w.toList.eraseIdx j by unfold Array.eraseIdxIfInBounds;rw[dif_pos N,Array.toList_eraseIdx]];exact X.eraseIdx j⟩
  exact⟨.none,_,j7,b,u,⟨rfl,rfl⟩,q⟩
end
section
open PySem.W
noncomputable def hsh(i j:Int):Int:=reduceHash<|Builtin.Tuple.tupleHashOf [hashInt i,hashInt j]
theorem wS:((Qc 64).map λi=>hsh ((i / 8:Nat):Int) ((i % 8:Nat):Int)).Nodup:=by decide+kernel
theorem uM{L:Type}{l:List L}(h:l.Nodup){i j:Nat}{a:L}(N:l[i]? =Ja a)(p:l[j]? =Ja a):i=j:=by
 obtain⟨o,c⟩:=QF.mp N;obtain⟨r,q⟩:=QF.mp p;exact(List.getElem_inj h).mp (c.trans q.symm)
theorem Ax{a b c d:Nat}(h:a=c)(k:b=d):hsh a b=hsh c d:=by subst h k;rfl
theorem vt{a b Y c:Nat}(E:a<8)(h:b<8)(J:Y<8)(w:c<8)(e:hsh a b=hsh Y c):a=Y/\b=c:=by
 have N:=wS;generalize j:(λi:Nat=>hsh ((i / 8:Nat):Int) ((i % 8:Nat):Int))=f at N;have at_:∀x y:Nat,x<8->y<8->((Qc 64).map f)[8*x+y]? =Ja (hsh x y):=λx y hx W=>by
  have u:f (8*x+y)=hsh x y:=(congrFun j<|8*x+y).symm.trans (Ax (zh1 W)<|zh2 W);have T:(Qc 64)[8*x+y]? =Ja (8*x+y):=Wp<|zh3 hx W;exact(Qs (f:=f) (l:=Qc 64) (i:=8*x+y)).trans ((Ud (Wj f) T).trans (Ud Ja u))
 have:=uM N (at_ a b E h)<|(at_ Y c J w).trans (Ud Ja e.symm);exact⟨(zh1 h).symm.trans ((Ud (· / 8) this).trans (zh1 w)),(zh2 h).symm.trans ((Ud (· % 8) this).trans (zh2 w))⟩
theorem ul{prog:Jn}{w:Jm}{k v:List KA}(h:dK k=Jc)(S:dK v=Jc)(e:(tk prog w).hash k=(tk prog w).hash v):k=v:=by
 obtain⟨a,b,rfl,N,p⟩:=i8 h;obtain⟨Y,c,rfl,J,O⟩:=i8 S;obtain⟨rfl,rfl⟩:=vt N p J O (show hsh a b=hsh Y c from e);rfl
theorem lh{L:Type}{f:L->Int}:∀ {l:List L},(l.map f).Nodup->(l.filter λx=>f x==c).length<=1
 |[]=>λo0=>QT _
 |a::l=>λh=>by
  obtain⟨N,Y⟩:=Qx.mp h;by_cases q:(f a==c)=Jc
  ·rw[QZ (p:=λx=>f x==c) q];have:l.filter (λx=>f x==c)=[]:=Yk.mpr λx hx z=>N<|Ql.mpr ⟨x,hx,(Ub z).trans (Ub q).symm⟩;rw[this];exact Qy _
  ·rw[Ka (p:=λx=>f x==c) q];exact lh Y
section
variable{C:Cx}{σ:PH}{s:Je}{A:Jj}{Er:Jf->Je->Prop}
theorem th{Q:Bool->Je->Prop}(q:(tk C.prog C.w).is s.heap k a)(h:Q Jd s):Jh (Mo C) A (Builtin.Dict.quietEq (.ref a)) Q Er s:=by
 show Jh _ _ (specialOf (.ref a) "__eq__">>=_) _ _ _;exact YG<|wpAny_specialOf (show s.TypeIs (.ref a) "tuple" from IsTupleKey.typeIs q) F.slot_tuple_eq.lookup (YH h)
theorem pJ{id:String}{d:Jg}{o:Jp}{es:Array JN}{ep:Nat}{xs:List (List KA×Jg×Jf)}{Q:Array JN->Je->Prop}(w:s.heap.get? d=Ja o)(v:o.data= .dict es ep)(O:es.toList=xs.map (JL (tk C.prog C.w)))(hi:∀x∈xs,(tk C.prog C.w).is s.heap x.1 x.2.1)
  (c:(xs.map (·.1)).Nodup)(E:∀x∈xs,dK x.1=Jc)(h:Q es s):Jh (Mo C) A (Builtin.Dict.entriesForEmpty id d) Q Er s:=by
 have n:(es.toList.map (·.hash)).Nodup:=by
  rw[O,QE];have:xs.map ((λx=>x.hash)∘JL (tk C.prog C.w))=(xs.map (·.1)).map (tk C.prog C.w).hash:=by rw[QE];rfl
  rw[this,QP,Wk];rw[QP] at c;refine c.imp_of_mem λ{a b} T R Y q=>Y ?_;obtain⟨x,hx,rfl⟩:=Ql.mp T;obtain⟨y,W,rfl⟩:=Ql.mp R;exact ul (E x hx) (E y W) q
 unfold Builtin.Dict.entriesForEmpty;refine YG<|wpAny_dictEntries w v ?_;refine YG ?_;rw[<-Array.forIn_toList];refine wpAny_forIn_list _ (λr o0 g=>g=s/\∀e∈r,e∈es.toList) _ ?_ ?_ _ _ ⟨rfl,λo0 e=>e⟩
 ·rintro e r b g ⟨rfl,l⟩;obtain⟨x,hx,rfl⟩:=Ql.mp<|O▸l e Wa;refine YG<|th (hi x hx) ?_;have D:¬ (es.filter (·.hash==(JL (tk C.prog C.w) x).hash)).size>1:=by
   rw[<-YB,Array.toList_filter];exact Kc.mpr<|lh n
  refine wy rfl<|wn D (YH ⟨rfl,λN S=>l N<|KC _ S⟩)
 ·rintro b g ⟨rfl,o0⟩;exact YH h
theorem uf{nm:String}{d o:Jg}{P X:Jp}{es:Array JN}{xs:List (List KA×Jg×Jf)}{Q:Unit->Je->Prop}(V:d≠o)(S:(o==JC)=Jd)(Y:s.heap.get? d=Ja P)(I:P.data= .dict #[] p)
  (w:s.heap.get? o=Ja X)(v:X.data= .dict es ep)(O:es.toList=xs.map (JL<|tk C.prog C.w))(hi:∀x∈xs,(tk C.prog C.w).is s.heap x.1 x.2.1)(g:(xs.map (·.1)).Nodup)(E:∀x∈xs,dK x.1=Jc)(n:xs≠ [])(hsz:xs.length<=JJ)
  (h:Q () {s with heap:=s.heap.update d (Obj.mapDictKeys λo0=>es)}):Jh (Mo C) A (Builtin.Dict.mergeDict nm d o) Q Er s:=by
 have l:es.size=xs.length:=J7 O;have i:es.size≠0:=λq=>n<|Yb.mp (l.symm.trans q);unfold Builtin.Dict.mergeDict;refine wn (λq=>V<|eq_of_beq q) ?_;unfold Builtin.Dict.showsAll;refine YG<|wn (c:=(o==JC)=Jc) (by rw[S];exact QC) (YH ?_);refine YG<|wpAny_dictEntries w v ?_;have f:(es.all λe=>(keyPart e.key).isSome)=Jd:=by
  obtain⟨x,r,rfl⟩:=WL n;rw[<-Array.all_toList,O,Qo,List.all_cons];rfl
 refine wy (by rw[f,YC];rfl) ?_;refine YG<|wpAny_dictEntries Y I ?_;refine wy rfl ?_;refine YG<|pJ w v O hi g E ?_;refine wy (by rw[show es.isEmpty=Jd from by rw[Array.isEmpty_eq_false_iff];exact λq=>i (by rw[q];rfl)];rfl) ?_;exact YG<|wpAny_updateDictKeysTo Y I (YH h) (by rw[l];exact Qn hsz<|Wf _)
theorem sQ{ks:List (List KA)}(m:Sim C σ s.heap)(e:σ a=Ja (.dict ks l))(hz:ks≠ []/\ks.length<=lim/\∀k∈ks,dK k=Jc)(q:wnew (.dict ks l) σ Q)(N:s.heap.objs.size≠JC):
  Jh (Mo C) A (call (.type "dict") [.ref a]) (VP C none1 σ s Q) Er s:=by
 obtain⟨P,D⟩:=m.dict e;obtain⟨o,U,p,g,Y,E,J,L,M⟩:=D.of;have r:P.length=ks.length:=by rw[<-D.ks,Qd]
 have d:s.heap.objs.size≠a:=λq=>absurd (QO g) (by rw[q];exact KJ _);refine callType_codes (Q₁:=λobj w=>obj= .ref s.heap.objs.size/\w={s with heap:=s.heap.push {cls:= .type "dict",data:= .dict #[]}}) F.kt_called_dict (F.kt_typeCall_dict_1 _) F.entry_dict_init (kt_code_dict_new _ ⟨rfl,rfl⟩) ?_;rintro obj w ⟨rfl,rfl⟩;have T:(⟨s.heap.push {cls:= .type "dict",data:= .dict #[]},s.gens,s.drawn,s.toks,s.os⟩:Je).TypeIs (.ref s.heap.objs.size) "dict":=⟨_,QK _ rfl,rfl⟩
 have X:(s.heap.push {cls:= .type "dict",data:= .dict #[]}).get? a=Ja o:=Qz _ g;have hTo:(⟨s.heap.push {cls:= .type "dict",data:= .dict #[]},s.gens,s.drawn,s.toks,s.os⟩:Je).TypeIs (.ref a) "dict":=⟨_,X,Y.1⟩
 refine⟨T,F.args_dict_init_2 _ _,?_⟩;unfold Builtin.«dict.__init__»;refine YG ?_;unfold Builtin.Dict.selfAndRest;refine YG<|wpAny_notOrdered_dict T ?_;show Jh _ _ (pure (s.heap.objs.size,[Value.ref a])) _ _ _;refine YH ?_;show Jh _ _ (Builtin.Dict.updateFrom "dict.__init__" s.heap.objs.size (.ref a) [] .none) _ _ _;unfold Builtin.Dict.updateFrom;refine YG<|wpAny_typeOf hTo ?_;refine wn (by decide) ?_;refine YG ?_;unfold Builtin.Dict.merge;refine YG ?_;unfold Builtin.Dict.readDirectly;refine YG<|wpAny_isInstance hTo isSubtype_dict_dict ?_;refine wn (by decide) ?_;refine YG<|wpAny_specialOf hTo F.slot_dict_iter.lookup (YH ?_);refine wy (by decide+kernel) ?_;refine YG<|YH ?_;refine uf d D.sys (QK _ rfl) rfl X E J (λx hx=> ?_) M (λx hx=>hz.2.2 _<|D.ks▸Ql.mpr ⟨x,hx,rfl⟩) (λq=>hz.1<|by rw[<-D.ks,q];rfl) (by rw[r,JU];exact zb2 hz.2.1 rfl) ?_
 ·exact((D.ka x hx).step (Step.push none1 σ s.heap _)).is
 show Jh _ _ (Builtin.Dict.addKeywords s.heap.objs.size []>>=_) _ _ _;refine YG<|YH (YH ⟨rfl,?_⟩);have kp:∀b W,s.heap.get? b=Ja W->((s.heap.push {cls:= .type "dict",data:= .dict #[]}).update s.heap.objs.size (Obj.mapDictKeys λo0=>U)).get? b=Ja W:=λb W h=>(Heap.get?_update_ne _ _ _ _<|WZ (QO h)).trans (Qz _ h);refine VP.keptNew (o:= .dict ks l) m kp ⟨rfl,rfl⟩ (ku _) (QY _ (QK _ rfl) rfl) (λi t=> ?_) q N;exact⟨U,_,P,⟨rfl,rfl,rfl⟩,rfl,J,D.ks,D.ks▸M,λy S=>(D.ka y S).step t,D.v.step t⟩
end
end
noncomputable def bty:List String:=["int","bool","list","tuple","dict"]
section
variable{C:Cx}{A:Jj}{Er:Jf->Je->Prop}{σ:PH}{s:Je}{Q:Post}{n:Nat}{fr:List Js}
theorem np(h:T∈bty):YU (.type "NoneType") (.type T)=pure Jd:=by
 rw[JP];simp only[bty,Qw,Kx,or_false] at h
 rcases h with rfl|rfl|rfl|rfl|rfl<;>kernel_rfl
theorem v9(h:T∈bty):YU (.type "str") (.type T)=pure Jd:=by
 rw[JP];simp only[bty,Qw,Kx,or_false] at h
 rcases h with rfl|rfl|rfl|rfl|rfl<;>kernel_rfl
theorem sub_int(h:T∈bty):YU (.type "int") (.type T)=pure (decide (T="int")):=by
 rw[JP];simp only[bty,Qw,Kx,or_false] at h
 rcases h with rfl|rfl|rfl|rfl|rfl<;>kernel_rfl
theorem on(h:T∈bty):YU (.type "bool") (.type T)=pure (decide (T="bool")||decide (T="int")):=by
 rw[JP];simp only[bty,Qw,Kx,or_false] at h
 rcases h with rfl|rfl|rfl|rfl|rfl<;>kernel_rfl
theorem ot(h:T∈bty):YU (.type "list") (.type T)=pure (decide (T="list")):=by
 rw[JP];simp only[bty,Qw,Kx,or_false] at h
 rcases h with rfl|rfl|rfl|rfl|rfl<;>kernel_rfl
theorem lW(h:T∈bty):YU (.type "tuple") (.type T)=pure (decide (T="tuple")):=by
 rw[JP];simp only[bty,Qw,Kx,or_false] at h
 rcases h with rfl|rfl|rfl|rfl|rfl<;>kernel_rfl
theorem dG(h:T∈bty):typeOf (.type T)=pure (.type "type"):=by
 simp only[bty,Qw,Kx,or_false] at h
 rcases h with rfl|rfl|rfl|rfl|rfl<;>kernel_rfl
theorem d6(h:U≠T):(Value.type T==Value.type U)=Jd:=by
 have:Value.type T≠Value.type U:=λe=>h<|by injection e with e;exact e.symm
 simpa using this
theorem yD(Y:T∈bty)(m:Sim C σ s.heap)(r:VR C σ s.heap p v)(H:isiV G σ p [T]=Ja b)(q:Q (.bool b) σ):
  Jh (Mo C) A (call (.builtin "isinstance") [v,.type T]) (VP C none1 σ s Q) Er s:=by
 have fin:∀tk,VP C none1 σ s Q (.bool b) {s with toks:=tk}:=λtk=>VP.here m rfl ⟨rfl,rfl⟩ fY q
 induction p using PV.casesOn with
 |none=>
  change _=_ at r;subst r;obtain rfl:=sj (show Ja Jd=Ja b from H);have ne:T≠"NoneType":=by rintro rfl;exact absurd Y<|by decide
  exact Jz (S:=λo0 R s=>(λs:Je=>s.TypeIs .none "NoneType") s/\∀K,R (.ok<|.ret (.bool Jd)) {s with toks:=K})
   (λo0 o0 o0 o0 o0 E=>isinstance_outer<|Answers.of_false_none (d6 ne) (dG Y) (np Y) 0 0 _ _ _ _ _ E) ⟨rfl,fin⟩
 |str x=>
  obtain⟨t,rfl⟩:=r;obtain rfl:=sj (show Ja Jd=Ja b from H);have ne:T≠"str":=by rintro rfl;exact absurd Y<|by decide
  exact Jz (isinstance_false_str (d6 ne) (dG Y)<|v9 Y)<|fin _
 |int i=>
  obtain⟨t,rfl⟩:=r;replace H:=Option.some.inj (show Ja ([T].contains "int")=Ja b from H);simp only[KZ,Yd,Bool.or_false] at H;by_cases h:T="int"
  ·subst h;have:b=Jc:=by rw[<-H];decide
   subst this;exact Jz (J8 (dG Y)<|by rw[sub_int Y];rfl) ⟨typeIs_int _ _ _,fin _⟩
  ·have:b=Jd:=by rw[<-H];simpa using λe=>h e.symm
   subst this;exact Jz (isinstance_false_int (d6 h) (dG Y)<|by rw[sub_int Y];simp[h])<|fin _
 |bool x=>
  change _=_ at r;subst r;replace H:=Option.some.inj (show Ja ([T].contains "bool"||[T].contains "int")=Ja b from H);simp only[KZ,Yd,Bool.or_false] at H;by_cases h:T="bool"\/T="int"
  ·have:b=Jc:=by rw[<-H];rcases h with rfl|rfl<;>decide
   subst this;exact Jz (J8 (Tx:="bool") (dG Y) (by rw[on Y];rcases h with rfl|rfl<;>rfl)) ⟨rfl,fin _⟩
  ·have N:T≠"bool":=λe=>h<|.inl e;have B:T≠"int":=λe=>h<|.inr e;have:b=Jd:=by rw[<-H];simp[Ne.symm N,Ne.symm B]
   subst this;exact Jz (isinstance_false_bool (d6 N) (dG Y)<|by rw[on Y];simp[N,B])<|fin _
 |tup l=>
  obtain⟨a,k,w,rfl,o0,N,o0⟩:=r;replace H:=Option.some.inj (show Ja ([T].contains "tuple")=Ja b from H);simp only[KZ,Yd,Bool.or_false] at H;by_cases h:T="tuple"
  ·subst h;have:b=Jc:=by rw[<-H];decide
   subst this;exact Jz (J8 (Tx:="tuple") (dG Y)<|by rw[lW Y];rfl) ⟨⟨_,N,rfl⟩,fin _⟩
  ·have:b=Jd:=by rw[<-H];simpa using λe=>h e.symm
   subst this;exact Jz (isinstance_false_tuple (d6 h) (dG Y)<|by rw[lW Y];simp[h]) ⟨⟨_,N,rfl⟩,fin _⟩
 |ref a=>
  change _=_ at r;subst r;replace H:isiO G [T] (σ a)=Ja b:=H
  induction M:σ a with
  |none=>rw[M] at H;exact onx H
  |some o=>
  rw[M] at H
  induction o with
  |list l=>
   replace H:=Option.some.inj (show Ja ([T].contains "list")=Ja b from H);simp only[KZ,Yd,Bool.or_false] at H;obtain⟨w,k,N,o0⟩:=m.list M;by_cases h:T="list"
   ·subst h;have:b=Jc:=by rw[<-H];decide
    subst this;exact Jz (J8 (Tx:="list") (dG Y)<|by rw[ot Y];rfl) ⟨⟨_,N,rfl⟩,fin _⟩
   ·have:b=Jd:=by rw[<-H];simpa using λe=>h e.symm
    subst this;exact Jz (isinstance_false_list (d6 h) (dG Y)<|by rw[ot Y];simp[h]) ⟨⟨_,N,rfl⟩,fin _⟩
  |_=>exact onx H
 |scr l=>exact onx H
end
theorem lV(h:place n k=Ja j):seqIndex? k n=Ja j/\j<n:=by
 unfold place at h;unfold seqIndex?
 split at h
 ·rename_i i
  split at h
  ·rename_i N
   obtain rfl:=sj h;refine⟨?_,by exact(KT i).mpr N⟩;simp only[show ¬k<0 by exact KI.mpr i,if_false];rw[Ua (by simp only[QV,Uc];exact⟨i,N⟩)]
  ·exact ns h
 ·rename_i i
  split at h
  ·rename_i N
   obtain rfl:=sj h;refine⟨?_,by exact(KT N).mpr (zng i)⟩;simp only[show k<0 by exact Yh.mp i,if_true];rw[Ua (by simp only[QV,Uc];exact⟨N,zng i⟩)]
  ·exact ns h
theorem k9(h:place n k=Ja j): -(n:Int)<=k/\k<n:=by
 unfold place at h;by_cases i:0<=k
 ·rw[Ua i] at h;by_cases N:k<n
  ·exact⟨QL (Int.neg_nonpos_of_nonneg<|QS _) i,N⟩
  ·rw[Y9 N] at h;exact ns h
 ·rw[Y9 i] at h;by_cases N:0<=k+n
  ·exact⟨Int.add_nonneg_iff_neg_le.mp N,KY (Yh.mp i)<|QS _⟩
  ·rw[Y9 N] at h;exact ns h
theorem lY{k:Int}(i:0<=k)(h:place n k=Ja j):j=k.toNat:=by
 unfold place at h;rw[Ua i] at h
 split at h
 ·obtain rfl:=sj h;rfl
 ·exact ns h
theorem rR(i:¬0<=k)(h:place n k=Ja j):j=(k+n).toNat:=by
 unfold place at h;rw[Y9 i] at h
 split at h
 ·obtain rfl:=sj h;rfl
 ·exact ns h
section
variable{C:Cx}{A:Jj}{Er:Jf->Je->Prop}{σ:PH}{s:Je}{Q:Post}{n:Nat}{fr:List Js}
theorem lD(slice:Jl)(o i:Jf):∃ops,subscripted slice Jd o i=operate ops (getItem o i):=by
 induction slice using Expr.casesOn with
 |Slice l u st p=>induction st with
  |none=>exact⟨_,rfl⟩
  |some x=>exact⟨_,rfl⟩
 |_=>exact⟨_,rfl⟩
theorem je{vs:Array Jf}{R:Jf->Je->Prop}(l:s.heap.IsList a vs)(hz:vs.size<=10000000)(H:place vs.size k=Ja j)(hx:vs[j]? =Ja x)(h:R x s):
  Jh (Mo C) A (getItem (.ref a)<|.int k t) R Er s:=by
 obtain⟨b,V⟩:=k9 H;by_cases i:0<=k
 ·have e:=lY i H;subst e;exact wpAny_getItem_list l i (by exact zi1 hz V) hx h
 ·have e:=rR i H;subst e;exact wpAny_getItem_list_neg l (by exact Yh.mp i) b (by exact zi2 hz b) hx h
theorem wF(u:A.units+100<Y5)(m:Sim C σ s.heap)(e:σ a=Ja (.dict ks l))(r:VR C σ s.heap i w)(M:keyOf i=Ja k)(hx:klook ks l k=Ja x)
  (q:Q x σ):Jh (Mo C) A (PyProof.Rows.subscriptTail v c (.ref a) w) (VP C none1 σ s Q) Er s:=by
 obtain⟨P,D⟩:=m.dict e;obtain⟨b,rfl,R⟩:=kO M r
 rcases D.look (k:=k) with⟨z,o0⟩|⟨p,y,z1,z2,z3⟩
 ·exact sn<|hx.symm.trans z
 ·obtain rfl:=sj<|hx.symm.trans z1;obtain⟨o,h⟩:=lD c (.ref a)<|.ref b;exact PyProof.Rows.tail_any (T:="dict") D.of.typeIs slot_dict_getitem.lookup (wpAny_getItem_heap (iu u) R.is D.of z2<|VP.here m rfl ⟨rfl,rfl⟩ z3 q) h
theorem zg(m:Sim C σ s.heap)(r:VR C σ s.heap p v)(V:VR C σ s.heap i w)(e:psub σ p i=Ja x)(hz:∀k,plen σ p=Ja k->k<=10000000)
  (q:Q x σ):Jh (Mo C) A (PyProof.Rows.subscriptTail g c v w) (VP C none1 σ s Q) Er s:=by
 induction p using PV.casesOn with
 |ref a=>
  change _=_ at r;subst r;replace e:psubO i (σ a)=Ja x:=e
  induction M:σ a with
  |none=>rw[M] at e;exact onx e
  |some o=>
  rw[M] at e
  induction o with
  |list l=>
   replace e:psubL l i=Ja x:=e
   induction i using PV.casesOn with
   |int k=>
   replace e:((place l.length k).bind λj=>l[j]?)=Ja x:=e;obtain⟨t,rfl⟩:=V;obtain⟨J,X,N,Y⟩:=m.list M;have b:J.size=l.length:=by simpa using Y.length
   obtain⟨j,H,hx⟩:=Qq.mp e;obtain⟨Z,L,R⟩:=Y.get j x hx;obtain⟨z,d⟩:=lD c (.ref a)<|.int k t;have h:=hz l.length (by show lenO (σ a)=_;rw[M];rfl);exact PyProof.Rows.tail_any (T:="list") ⟨_,N,rfl⟩ slot_list_getitem.lookup
    (je ⟨_,N,rfl,X,rfl⟩ (by exact zle (QU b) h) (by rw[b];exact H) (by simpa using L)<|VP.here m rfl (Rest.refl s) R q) d
   |_=>exact onx e
  |_=>exact onx e
 |tup l=>
  induction i using PV.casesOn with
  |int k=>
   replace e:((place l.length k).bind λj=>l[j]?)=Ja x:=e;obtain⟨a,X,J,rfl,I,N,Y⟩:=r;obtain⟨t,rfl⟩:=V;have b:J.size=l.length:=by simpa using Y.length
   obtain⟨j,H,hx⟩:=Qq.mp e;obtain⟨Z,L,R⟩:=Y.get j x hx;obtain⟨z,d⟩:=lD c (.ref a)<|.int k t;have h:=hz l.length rfl;obtain⟨K,W⟩:=k9 H;exact PyProof.Rows.tail_any (T:="tuple") ⟨_,N,rfl⟩ F.slot_tuple_getitem.lookup
    (P.getItem_tuple N (by exact zi2 h K) (by exact zi1 h W) (by rw[b];exact(lV H).1) (by simpa using L)<|VP.here m rfl (Rest.refl s) R q) d
  |_=>first|exact bnx e|exact onx e|cases e
 |scr l=>
  induction i using PV.casesOn with
  |int k=>
   replace e:(((place l.length k).bind λj=>l[j]?).map PV.int)=Ja x:=e;obtain⟨a,o,X,J,rfl,N,Y,G,b,O⟩:=r;obtain⟨t,rfl⟩:=V;obtain⟨y,E,rfl⟩:=Qt.mp e;obtain⟨j,H,hx⟩:=Qq.mp E;obtain⟨u,D⟩:=O j y hx;obtain⟨z,d⟩:=lD c (.ref a)<|.int k t;have h:=hz l.length rfl;exact PyProof.Rows.tail_any (T:="list") ⟨_,m.base _ _ N,Y⟩ slot_list_getitem.lookup
    (je ⟨_,m.base _ _ N,Y,X,G⟩ (by exact zle (QU b) h) (by rw[b];exact H) D<|VP.here m rfl (Rest.refl s) (eg _) q) d
  |_=>first|exact bnx e|exact onx e|cases e
 |_=>first|exact bnx e|exact onx e|cases e
theorem lK{vs:Array Jf}{R:Unit->Je->Prop}(T:s.heap.get? l=Ja (lstO vs X))(hz:vs.size<=10000000)(H:place vs.size k=Ja j)
  (h:R () {s with heap:=s.heap.update l (Obj.mapSeq (·.setIfInBounds j v))}):Jh (Mo C) A (setItem (.ref l) (.int k t) v) R Er s:=by
 have Y:s.TypeIs (.ref l) "list":=⟨_,T,rfl⟩
 obtain⟨N,E⟩:=k9 H;obtain⟨d,S⟩:=lV H;have hx:vs[j]? =Ja vs[j]:=Kk S;have V:Builtin.List.listFitsIndex k=Jc:=by
  unfold Builtin.List.listFitsIndex;simp only[QV,Uc];exact⟨zi2 hz N,zi1 hz E⟩
 unfold setItem
 try with_reducible refine YJ ?_
 first|refine YG (YH ?_)|skip
 refine YG (wpAny_sequenceKey Y (by decide) ?_);refine YG (wpAny_callSpecial?_slot (name:=Qb "__setitem__") Y slot_list_setitem
  (YM slot_list_setitem Y entry_list_setitem ?_ (args_list_setitem _ _ _)))
 show Jh _ _ (Builtin.List.listSubscript? (.int k t)>>=_) _ _ s;refine YG<|wpAny_listSubscript_int V ?_;have fin:Jh (Mo C) A.in1.in1 (setSeqItemAt l j v>>=λo0=>ret .none) (λf g=>∃w,f= .done (.ret w)/\Jh (Mo C) A (pure ()) R Er g) Er s:=
  YG (YX T rfl<|YH ⟨.none,rfl,YH h⟩)
 clear V
 induction k with
 |ofNat i=>
  have b:j=i:=lY (QS i) H;subst b;show Jh _ _ ((seqItemAt l j>>=λr=>pure (r.map (j,·)))>>=_) _ _ s;refine YG<|YG (wpAny_seqItemAt T rfl<|YH ?_);rw[hx];show Jh _ _ (setSeqItemAt l j v>>=_) _ _ s;refine YG<|wpAny_setSeqItemAt T rfl ?_
  first
   |exact YG<|YH (YH ⟨.none,rfl,YH h⟩)
   |exact YH ⟨.none,rfl,YH h⟩
 |negSucc i=>
  show Jh _ _ ((Builtin.List.listItems (.ref l)>>=λx=>pure ((seqIndex? (Int.negSucc i) x.size).bind λi=>x[i]?.map (i,·)))>>=_) _ _ s;refine YG<|YG ?_;show Jh _ _ (seqItems? (.ref l)>>=_) _ _ s;refine YG<|wpAny_seqItems T rfl (YH<|YH ?_);rw[d];simp only[KV,hx,Wc];refine YG<|wpAny_setSeqItemAt T rfl ?_
  first
   |exact YG<|YH (YH ⟨.none,rfl,YH h⟩)
   |exact YH ⟨.none,rfl,YH h⟩
end
abbrev EOK(C:Cx)(A:Jj)(σ:PH)(s:Je)(t:Sem Jf)(Q:Post)(X:XPost):Prop:=Jh (Mo C) A t (VP C none1 σ s Q) (XP C none1 σ s X) s
abbrev EOKs(C:Cx)(A:Jj)(σ:PH)(s:Je)(t:Sem (List Jf))(Q:List PV->PH->Prop)(X:XPost):Prop:=Jh (Mo C) A t (VPs C none1 σ s Q) (XP C none1 σ s X) s
section
variable{C:Cx}{A:Jj}{σ:PH}{s:Je}{Q:Post}{X:XPost}
theorem EOK.then{R:Jf->Je->Prop}(h:EOK C A σ s t Q' X)
  (k:∀v W p σ1,VR C σ1 W.heap p v->Sim C σ1 W.heap->Step none1 σ s.heap σ1 W.heap->Rest s W->Q' p σ1->R v W):Jh (Mo C) A t R (XP C none1 σ s X) s:=
 VP.to h k λo0 o0 x=>x
theorem EOK.after{d:PH}{s₁:Je}(st:Step none1 σ s.heap d s₁.heap)(r:Rest s s₁)(h:EOK C A d s₁ t Q X):Jh (Mo C) A t (VP C none1 σ s Q) (XP C none1 σ s X) s₁:=
 YI h (λo0 o0 x=>VP.from st r x) λo0 o0 x=>XP.from st r x
end
section
variable{C:Cx}{G:Gx}{mg mb:Jq->Option Jf}{A:Jj}{env:Js}{ρ:Rho}{σ:PH}{s:Je}{Q:Post}{X:XPost}
noncomputable def d4:List Jl->Bool
 |[]=>Jc
 | .Starred .. ::_=>Jd
 |_::r=>d4 r
theorem gU(hy:∀z q,y≠ .Starred z q)(hr:d4 r=Jc):d4 (y::r)=Jc:=by
 induction y using Expr.casesOn with
 |Starred z q=>exact absurd rfl<|hy z q
 |_=>exact hr
theorem cL(h:∀x p,e≠ .Starred x p):JD (e::r) env=(Jd,Jw e env)::JD r env:=by
 rcases e with⟨⟩<;>first|rfl|exact absurd rfl<|h _ _
theorem iO:∀ {es:List Jl},d4 es=Jc->(JW pos (JD es env)).any (·.1)=Jd
 |[]=>λo0=>rfl
 |e::r=>λh=>by
  have n:∀x p,e≠ .Starred x p:=by rintro x p rfl;exact ft h
  have T:d4 r=Jc:=by rcases e with⟨⟩<;>first|exact h|exact ft h
  rw[cL n];have:=iO (pos:=pos) T;simp only[JW,Qo,List.any_cons,Bool.false_or] at this ⊢;exact this
theorem d5{R:Jf->Je->Prop}{Er:Jf->Je->Prop}(kp:Kp C f)(D:d4 es=Jc)
  (h:Jh (Mo C) A (J1<|backTo pos (JD es env)) (λvs s₁=>(∀b o,C.B.get? b=Ja o->s₁.heap.get? b=Ja o)/\Jh (Mo C) A (call f<|first++vs) R Er s₁) Er s):
  Jh (Mo C) A (callWith pos f first (JW pos<|starEach es env)<|backToKw pos (J2 [] env)) R Er s:=by
 obtain⟨k,q,L⟩:=kp;refine W.callWith_of (P:=λh=>∀b o,C.B.get? b=Ja o->h.get? b=Ja o) ?_ (λh v=>⟨k,q,L.keeps v⟩) ?_
 ·rw[iO D];rfl
 ·induction es using List.casesOn with
  |nil=>
   show Jh (Mo C) A (evalArgs f Jc [] []) _ _ s;unfold evalArgs;show Jh (Mo C) A (J1 []>>=_) _ _ s;refine YG (YI h (λvs g S=> ?_) λo0 o0 x=>x);exact YG<|YH (YJ<|YG (YH<|YG (YH<|YH S)))
  |cons e r=>
   have n:∀x p,e≠ .Starred x p:=by rintro x p rfl;exact ft D
   rw[cL n] at h ⊢;exact Calls.evalArgs_plain h
end
noncomputable def BI.val:BI->Jf
 | .len=> .builtin "len"| .all=> .builtin "all"| .sum=> .builtin "sum"| .int=> .type "int"| .list=> .type "list"| .min=> .builtin "min"| .sorted=> .builtin "sorted"| .dict _=> .type "dict"
theorem BI.kp(C:Cx)(b:BI):Kp C b.val:=by
 rcases b with o0|o0|o0|o0|o0|o0|o0|⟨⟨⟩⟩<;>exact⟨.machine,.inr<|.inl rfl,W.Looks.of_pure rfl⟩
theorem BI.boot(b:BI):YY (Qb b.nm)=Ja b.val:=by
 rcases b with o0|o0|o0|o0|o0|o0|o0|⟨⟨⟩⟩<;>decide+kernel
theorem BI.mem(b:BI):b.nm∈bltNames:=by
 rcases b with o0|o0|o0|o0|o0|o0|o0|⟨⟨⟩⟩<;>decide
section
variable{C:Cx}{A:Jj}{Er:Jf->Je->Prop}{σ:PH}{s:Je}{Q:Post}
theorem VRs.one(r:VRs C σ h [p] vs):∃v,vs=[v]/\VR C σ h p v:=by
 obtain⟨v,q,rfl,N,rfl⟩:=r;exact⟨v,rfl,N⟩
theorem VRs.two(r:VRs C σ h [p,q] vs):X2 λv w=>A3 (vs=[v,w]) (VR C σ h p v) (VR C σ h q w):=by
 obtain⟨v,q,rfl,N,w,r,rfl,Y,rfl⟩:=r;exact⟨v,w,rfl,N,Y⟩
theorem AJ{b:BI}{args:List PV}(U:A.handled=Jb)(u:A.units+100<Y5)(m:Sim C σ s.heap)(r:VRs C σ s.heap args vs)(w:wbi b args σ Q)(W:s.heap.objs.size≠JC):
  Jh (Mo C) A (call b.val vs) (VP C none1 σ s Q) Er s:=by
 have t:∀ {K:PV->Prop} {f:Jf},on1 K args->(∀p v,K p->VR C σ s.heap p v->Jh (Mo C) A (call f [v]) (VP C none1 σ s Q) Er s)->Jh (Mo C) A (call f vs) (VP C none1 σ s Q) Er s:=λw k=>by
  obtain⟨p,rfl,w⟩:=wu w;obtain⟨v,rfl,S⟩:=r.one;exact k p v w S
 have E:∀ {K:List PV->Prop} {p:PV} {v:Jf} {f:Jf},onL σ K p->VR C σ s.heap p v->(∀a l,K l->σ a=Ja (.list l)->Jh (Mo C) A (call f [.ref a]) (VP C none1 σ s Q) Er s)->Jh (Mo C) A (call f [v]) (VP C none1 σ s Q) Er s:=λw S k=>by
  obtain⟨a,l,rfl,e,j⟩:=eN w;rw[show _=Value.ref a from S];exact k a l j e
 induction b with
 |len=>
  exact t w λp v w S=>by
   obtain⟨n,e,w⟩:=gA w;exact yI m S e w.1 w.2
 |all=>
  exact t w λp v w S=>E w S λa l w e=>by
   obtain⟨bs,h,w⟩:=qB w;exact zx U m e h w
 |sum=>
  exact t w λp v w S=>E w S λa l w e=>by
   obtain⟨bs,h,w⟩:=kl w;exact zn U m e h w
 |int=>
  exact t w λp v w S=>by
   obtain⟨x,rfl,w⟩:=lu w;rw[show v= .bool x from S];exact call_int_bool<|VP.here m rfl ⟨rfl,rfl⟩ (eg _) w
 |list=>
  exact t w λp v w S=>by
   rcases w with w|w
   ·obtain⟨a,L,l,rfl,e,j⟩:=iC w;rw[show v= .ref a from S];exact tA U m e j.1 j.2
   rcases vH w with⟨l,rfl,w⟩|⟨a,l,rfl,e,B⟩
   ·obtain⟨a,k,vs,rfl,O,N,Y⟩:=S;exact qP (.inr rfl) m N Y w.1 w.2
   ·rw[show v= .ref a from S];obtain⟨vs,k,N,Y⟩:=m.list e;exact qP (.inl rfl) m N Y B.1 B.2
 |min=>
  exact t w λp v w S=>E w S λa l w e=>by
   obtain⟨is,i,w⟩:=kl w;exact zr U m e i w.1 w.2
 |sorted=>
  exact t w λp v w S=>E w S λa l w e=>by
   obtain⟨is,i,w⟩:=kl w;exact sz m e i w.1 w.2
 |dict=>
  exact t w λp v w S=>by
   obtain⟨a,L,l,rfl,e,j⟩:=iC w;rw[show v= .ref a from S];exact sQ m e j.1 j.2 W
end
section
set_option backward.match.sparseCases true
def Mv(F:Jg->Prop)(h h':Ji):Prop:=∀c o,¬F c->h.get? c=Ja o->h'.get? c=Ja o
def Fok(C:Cx)(σ:PH)(h:Ji)(F:Jg->Prop):Prop:=
 ∀c,F c->A3 (C.B.get? c=Jb) (σ c=Jb) (∀v n,h.get? c≠Ja (tupO v n))
section
variable{C:Cx}{F:Jg->Prop}{σ:PH}{h h':Ji}
theorem Mv.refl:Mv F h h:=λo0 o0 o0 e=>e
theorem Mv.mono{I:Jg->Prop}(x:Mv F h h')(k:∀c,F c->I c):Mv I h h':=λc o f e=>x c o (λq=>f (k c q)) e
mutual
theorem VR.mv(mv:Mv F h h')(fo:Fok C σ h F):∀ (p:PV) (v:Jf),VR C σ h p v->VR C σ h' p v
 | .none=>λo0 e=>e
 | .bool _=>λo0 e=>e
 | .int _=>λo0 e=>e
 | .str _=>λo0 e=>e
 | .ref _=>λo0 e=>e
 | .scr _=>λo0 e=>e
 | .tup l=>λv e=>by
  obtain⟨a,n,vs,T,es,e2,V⟩:=e;refine⟨a,n,vs,T,es,mv a _ (λf=>by obtain⟨o0,o0,q⟩:=fo a f;exact q vs n e2) e2,VRs.mv mv fo l _ V⟩
theorem VRs.mv(mv:Mv F h h')(fo:Fok C σ h F):∀ (l:List PV) (vs:List Jf),VRs C σ h l vs->VRs C σ h' l vs
 |[]=>λo0 e=>e
 |p::ps=>λvs e=>by
  obtain⟨v,r,T,e2,X⟩:=e;exact⟨v,r,T,VR.mv mv fo p v e2,VRs.mv mv fo ps r X⟩
end
theorem KeyAt.mv(mv:Mv F h h')(fo:Fok C σ h F)(x:KeyAt C σ h k a):KeyAt C σ h' k a:=by
 obtain⟨n,v,m,g,i⟩:=x;refine⟨n,v,m,mv a _ (λf=>by obtain⟨o0,o0,q⟩:=fo a f;exact q v m g) g,i⟩
theorem OR.mv(mv:Mv F h h')(fo:Fok C σ h F):∀ (p:PO) (o:Jp),OR C σ h p o->OR C σ h' p o:=λp o r=>by
 induction p with
 |list l=>obtain⟨J,n,w,X⟩:=r;exact⟨J,n,w,VRs.mv mv fo _ _ X⟩
 |dict=>obtain⟨U,s,P,x,d,e,k,nd,a,v⟩:=r;exact⟨U,s,P,x,d,e,k,nd,λy W=>(a y W).mv mv fo,VRs.mv mv fo _ _ v⟩
 |fd=>obtain⟨U,s,e,k,v,z⟩:=r;exact⟨U,s,e,k,λi f p N Y=>(v i f p N Y).imp λu q=>⟨q.1,VR.mv mv fo _ _ q.2⟩,z⟩
 |_=>exact r
theorem Sim.mv(m:Sim C σ h)(mv:Mv F h h')(fo:Fok C σ h F):Sim C σ h' where
 base:=λb o e=>mv b o (λf=>by obtain⟨q,o0,o0⟩:=fo b f;exact sn<|e.symm.trans q)<|m.base b o e
 new:=m.new
 objs:=λa o e=>by
  obtain⟨W,N,p⟩:=m.objs a o e;by_cases f:F a
  ·obtain⟨o0,q,o0⟩:=fo a f;exact ns<|q.symm.trans e
  ·exact⟨W,mv a W f N,p.mv mv fo⟩
 rich:=m.rich
theorem Step.mv{S:Jg->Prop}{h₀:Ji}(st:Step S B h₀ σ h)(mv:Mv F h h')(W:∀c,F c->h₀.get? c=Jb):Step S B h₀ σ h' where
 keep:=λb o e s=>by
  obtain⟨g,i,y,l⟩:=st.keep b o e s;exact⟨g,i,mv b i (λf=>by exact ns<|(W b f).symm.trans e) y,l⟩
 grow:=st.grow
 fix:=st.fix
 live:=λb e=>by
  by_cases f:F b
  ·exact W b f
  ·refine st.live b ?_
   induction q:h.get? b with
   |none=>rfl
   |some o=>exact sn<|(mv b o f q).symm.trans e
theorem Step.mvS{S:Jg->Prop}{h₀:Ji}(st:Step S B h₀ σ h)(mv:Mv F h h')(W:∀c,F c->h₀.get? c=Jb\/(S c/\(∀o,h₀.get? c=Ja o->¬isSeq o)/\∃o,h'.get? c=Ja o)):Step S B h₀ σ h' where
 keep:=λb o e s=>by
  obtain⟨g,i,y,l⟩:=st.keep b o e s;by_cases f:F b
  ·rcases W b f with q|⟨N,Z,P,Q⟩
   ·exact ns<|q.symm.trans e
   ·exact⟨g,P,Q,λx=>absurd (x N)<|Z o e⟩
  ·exact⟨g,i,mv b i f y,l⟩
 grow:=st.grow
 fix:=st.fix
 live:=λb e=>by
  by_cases f:F b
  ·rcases W b f with q|⟨o0,o0,P,Q⟩
   ·exact q
   ·exact sn<|Q.symm.trans e
  ·refine st.live b ?_
   induction q:h.get? b with
   |none=>rfl
   |some o=>exact sn<|(mv b o f q).symm.trans e
theorem EnvR.mv{env:Js}(x:EnvR C env L σ h)(mv:Mv F h h')(fo:Fok C σ h F)(fl:¬F env.locals)(f:∀y c,env.cells.lookup y=Ja c->¬F c):EnvR C env L σ h' where
 fn:=x.fn
 glob:=x.glob
 blt:=x.blt
 ns:=by
  obtain⟨m,n,hv⟩:=x.ns;exact⟨m,Ns.like n λo e=>⟨o,mv _ o fl e,.refl o⟩,λy p T w=>by obtain⟨v,a,b⟩:=hv y p T w;exact⟨v,a,b.mv mv fo⟩⟩
 cell:=λy p T w=>by
  obtain⟨c,v,a,b,d⟩:=x.cell y p T w;exact⟨c,v,a,IsCell.like b λo e=>⟨o,mv _ o (f y c a) e,.refl o⟩,d.mv mv fo⟩
 newL:=x.newL
 newC:=λy c e=>by
  obtain⟨a,v,b⟩:=x.newC y c e;exact⟨a,v,IsCell.like b λo g=>⟨o,mv _ o (f y c e) g,.refl o⟩⟩
 baseL:=x.baseL
 baseC:=x.baseC
 apart:=x.apart
 hasC:=x.hasC
theorem Frs.mv(f:Frs C σ h l)(mv:Mv F h h')(W:∀env∈l,∀L,env.frame=Ja L->¬F L):Frs C σ h' l:=λenv O=>by
 obtain⟨k,L,o,s,n,e,w,X,u,V⟩:=f env O;exact⟨k,L,o,s,n,e,w,X,mv L o (W env O L e) u,V⟩
theorem AOK.mv(x:AOK C n A l σ h)(mv:Mv F h h')(f:∀env∈l,∀L,env.frame=Ja L->¬F L):AOK C n A l σ h':=
 ⟨x.depth,x.units,x.stack,x.frs.mv mv f,x.calm⟩
theorem hJ{o:Jp}(e:h.get? c=Ja o)(q:o.cls≠ .type "tuple"):∀vs n,h.get? c≠Ja (tupO vs n):=λvs n x=>by obtain rfl:=sj<|e.symm.trans x;exact q rfl
end
structure Src(C:Cx)(A:Jj)(t:Jl)(I:Jg)(fp:List Jg)(xs:List PV)(chk:PH->Prop)(St:Nat->PH->Ji->Prop):Prop where
 hdn:A.handled=Jb
 step:∀ {i:Nat} {S:Jg->Prop} {σ:PH} {h:Ji} {σ':PH} {h':Ji},St i σ h->Step S σ h σ' h'->(∀b∈fp,¬S b)->St i σ' h'
 mv:∀ {i:Nat} {F:Jg->Prop} {σ:PH} {h h':Ji},St i σ h->Mv F h h'->Fok C σ h F->(∀b∈fp,¬F b)->St i σ h'
 fok:∀ {i:Nat} {σ:PH} {h:Ji},St i σ h->Fok C σ h (· ∈fp)
 item:∀ {i:Nat} {x:PV} {σ:PH} {s:Je} {R:Option Jf->Je->Prop} {Er:Jf->Je->Prop},xs[i]? =Ja x->Sim C σ s.heap->chk σ->St i σ s.heap->
  (∀v s1,(∀ (K:Unit->Je->Prop) (Er':Jf->Je->Prop),(∀s2,VR C σ s2.heap x v->Sim C σ s2.heap->Mv (· ∈fp) s.heap s2.heap->St (i+1) σ s2.heap->Rest s s2->K () s2)->
   Jh (Mo C) A (letOwnedTupleGo t (.ref I) v) K Er' s1)->R (Ja v) s1)->Jh (Mo C) A (pyNext (.ref I)) R Er s
 done:∀ {σ:PH} {s:Je} {R:Option Jf->Je->Prop} {Er:Jf->Je->Prop},Sim C σ s.heap->chk σ->St xs.length σ s.heap->
  (∀s2,Sim C σ s2.heap->Mv (· ∈fp) s.heap s2.heap->Rest s s2->R Jb s2)->Jh (Mo C) A (pyNext<|.ref I) R Er s
 self:∀ {i:Nat} {σ:PH} {s:Je} {R:Jf->Je->Prop} {Er:Jf->Je->Prop},St i σ s.heap->R (.ref I) s->Jh (Mo C) A (YQ<|.ref I) R Er s
section
variable{C:Cx}{A:Jj}{σ:PH}{h h':Ji}
theorem fG{o:Jp}{s:Je}{K:Unit->Je->Prop}{Er:Jf->Je->Prop}(ho:s.heap.get? I=Ja o)(hc:o.cls= .type n)
  (hn:["enumerate","zip","dict_itemiterator","dict_reverseitemiterator","odict_iterator","itertools.zip_longest","itertools.pairwise"].contains n=Jd)(h:K () s):
  Jh (Mo C) A (letOwnedTupleGo t (.ref I) v) K Er s:=by
 have key:Jh (Mo C) A (do
   let(.ref r,.ref a):=(Value.ref I,v)|return
   let o<-load r
   match o.cls,o.data with
   | .type n,.fields vs=>
    if ["enumerate","zip","dict_itemiterator","dict_reverseitemiterator","odict_iterator","itertools.zip_longest","itertools.pairwise"].contains n&&vs[0]? ==Ja (Jx a) then
     rule "for.unpacks-the-owned-tuple"
     updateField r 0 .none
   |_,_=>pure ()) K Er s:=by
  induction v using Value.casesOn with
  |ref a=>
   refine YG<|wpAny_load ho ?_;rw[hc]
   induction hd:o.data with
   |fields vs=>
    dsimp only;rw[hn];simp only[Bool.false_and,Bool.false_eq_true,if_false];exact YH h
   |_=>exact YH h
  |_=>exact YH h
 induction t using Expr.casesOn with
 |Tuple a b c=>exact key
 |List a b=>exact key
 |_=>exact YH h
theorem eY(b:C.B.get? I=Jb)(N:σ I=Jb){o:Jp}(e:h.get? I=Ja o)(q:o.cls≠ .type "tuple"):Fok C σ h (· ∈ [I]):=λc f=>by
 have f:=Qj.mp f;subst f;exact⟨b,N,hJ e q⟩
theorem gQ(k:Heap.ExtBut I h h'):Mv (· ∈ [I]) h h':=λc o f e=>k c o (λq=>f (Qj.mpr q)) e
theorem Src.list(U:A.handled=Jb)(t:Jl)(I a:Jg)(l:List PV):
  Src C A t I [I] l (λσ=>σ a=Ja (.list l)) (λi σ h=>σ I=Jb/\C.B.get? I=Jb/\h.IsListIter I a i) where
 hdn:=U
 step:=λz M S=>by
  obtain⟨N,b,o,p,J,O⟩:=z;obtain⟨T,W,d,V⟩:=M.keep _ o p N;have k:=V λx=>absurd x<|S _ (.head _);exact⟨T,b,W,d,k.1.trans J,k.2.2.1.trans O⟩
 mv:=λz mv f hf=>by obtain⟨N,b,o,p,J⟩:=z;exact⟨N,b,o,mv _ o (hf _<|.head _) p,J⟩
 fok:=λz=>by obtain⟨N,b,o,p,J,O⟩:=z;exact eY b N p<|by rw[J];simp
 item:=λ{i x σ s R E} hx m c ⟨N,b,w⟩ X=>by
  obtain⟨D,n,P,g⟩:=m.list c;obtain⟨v,Q,L⟩:=g.get i x hx;refine wpAny_pyNext_list_item w ⟨_,P,rfl,n,rfl⟩ (x:=v) (by simpa using Q) λh' H B=> ?_;obtain⟨G,Z,j,y⟩:=id w;have f:=eY b N Z (by rw[j];simp);have mv:Mv (· ∈ [I]) s.heap h':=gQ B.extBut;refine X v _ λK aa r=> ?_;obtain⟨o2,Y,u,w6⟩:=id H;exact fG Y u (by decide)<|r _ (L.mv mv f) (m.mv mv f) mv ⟨N,b,H⟩ ⟨rfl,rfl⟩
 done:=λ{σ s R E} m c ⟨N,b,w⟩ X=>by
  obtain⟨D,n,P,g⟩:=m.list c;have q:D.size=l.length:=by simpa using g.length
  refine wpAny_pyNext_list_end U w ⟨_,P,rfl,n,rfl⟩ (by simp[q]) λh' e=> ?_;obtain⟨G,Z,j,y⟩:=w;exact X _ (m.mv (gQ e)<|eY b N Z (by rw[j];simp)) (gQ e) ⟨rfl,rfl⟩
 self:=λz X=>by obtain⟨o0,o0,w⟩:=z;exact wpAny_pyIter_listiter w X
theorem Src.tuple(U:A.handled=Jb)(t:Jl)(I a:Jg)(l:List PV):
  Src C A t I [I] l (λσ=>True) (λi σ h=>σ I=Jb/\C.B.get? I=Jb/\h.IsTupleIter I a i/\VR C σ h (.tup l) (.ref a)) where
 hdn:=U
 step:=λz M S=>by
  obtain⟨N,b,⟨o,p,J,O⟩,hv⟩:=z;obtain⟨Q,W,d,V⟩:=M.keep _ o p N;have k:=V λx=>absurd x<|S _ (.head _);exact⟨Q,b,⟨W,d,k.1.trans J,k.2.2.1.trans O⟩,hv.step M⟩
 mv:=λz mv f hf=>by obtain⟨N,b,⟨o,p,J⟩,hv⟩:=z;exact⟨N,b,⟨o,mv _ o (hf _<|.head _) p,J⟩,hv.mv mv f⟩
 fok:=λz=>by obtain⟨N,b,⟨o,p,J,O⟩,o0⟩:=z;exact eY b N p<|by rw[J];simp
 item:=λ{i x σ s R E} hx m hc ⟨N,b,w,hv⟩ X=>by
  have u:=hv;obtain⟨a',n,D,T,r,P,g⟩:=u;cases T;obtain⟨v,T,L⟩:=g.get i x hx;refine wpAny_pyNext_tuple_item w ⟨_,P,rfl,n,rfl⟩ (x:=v) (by simpa using T) λh' H B=> ?_;obtain⟨G,Z,j,y⟩:=id w;have f:=eY b N Z (by rw[j];simp);have mv:Mv (· ∈ [I]) s.heap h':=gQ B.extBut;refine X v _ λK aa hK=> ?_;obtain⟨o2,Y,q,w6⟩:=id H;exact fG Y q (by decide)<|hK _ (L.mv mv f) (m.mv mv f) mv ⟨N,b,H,hv.mv mv f⟩ ⟨rfl,rfl⟩
 done:=λ{σ s R E} m hc ⟨N,b,w,hv⟩ X=>by
  obtain⟨a',n,D,T,r,P,g⟩:=hv;cases T;have c:D.size=l.length:=by simpa using g.length
  refine wpAny_pyNext_tuple_end U w ⟨_,P,rfl,n,rfl⟩ (by simp[c]) λh' e=> ?_;obtain⟨G,Z,j,y⟩:=w;exact X _ (m.mv (gQ e)<|eY b N Z (by rw[j];simp)) (gQ e) ⟨rfl,rfl⟩
 self:=λz X=>by obtain⟨o0,o0,w,o0⟩:=z;exact wpAny_pyIter_tupleiter w X
theorem Src.range(U:A.handled=Jb)(t:Jl)(I:Jg)(n:Nat):
  Src C A t I [I] ((Qc n).map λ(i:Nat)=> .int i) (λσ=>True) (λi σ h=>σ I=Jb/\C.B.get? I=Jb/\i<=n/\IsRangeIter h I i (n-i) 1) where
 hdn:=U
 step:=λz Z S=>by
  obtain⟨N,b,T,p⟩:=z;obtain⟨P,o,k,y⟩:=Z.keep _ _ p N;have a:=y λx=>absurd x<|S _ (.head _);rw[a.eq (by simp)] at k;exact⟨P,b,T,k⟩
 mv:=λz mv f j=>by obtain⟨N,b,T,p⟩:=z;exact⟨N,b,T,mv _ _ (j _<|.head _) p⟩
 fok:=λz=>by obtain⟨N,b,T,p⟩:=z;exact eY b N p<|by simp
 item:=λ{i x σ s R E} hx m c ⟨N,b,T,w⟩ X=>by
  have V:i<n:=by
   rcases Nat.lt_or_ge i n with q|q
   ·exact q
   ·exact ns<|(KW<|by simp;exact q).symm.trans hx
  have ex:x= .int i:=by
   rw[Qs,Wp V] at hx;simpa using hx.symm
  subst ex;refine wpAny_pyNext_range_item w (by exact Int.sub_pos_of_lt<|Kf.mpr V) λh' l B=> ?_;have f:=eY b N w (by simp);have mv:Mv (· ∈ [I]) s.heap h':=gQ B.extBut;refine X _ _ λK r H=> ?_;refine fG l rfl (by decide)<|H _ ⟨_,rfl⟩ (m.mv mv f) mv ⟨N,b,V,?_⟩ ⟨rfl,rfl⟩;have:((n:Int)-(i:Int)-1)=(n:Int)-((i+1:Nat):Int):=by exact WT _ _ _
  rw[this] at l;exact l
 done:=λ{σ s R E} m c ⟨N,b,T,w⟩ X=>by
  refine wpAny_pyNext_range_end U w (by simp) λh' e=> ?_;exact X _ (m.mv (gQ e)<|eY b N w (by simp)) (gQ e) ⟨rfl,rfl⟩
 self:=λz X=>by obtain⟨o0,o0,o0,w⟩:=z;exact wpAny_pyIter_rangeiter w X
structure EnAt(C:Cx)(e it a:Jg)(i:Nat)(σ:PH)(h:Ji):Prop where
 ne:σ e=Jb
 ni:σ it=Jb
 be:C.B.get? e=Jb
 bi:C.B.get? it=Jb
 en:∃old,IsEnum h e it i old
 li:h.IsListIter it a i
theorem EnAt.fok(x:EnAt C e t a i σ h):Fok C σ h (· ∈ [e,t]):=λc f=>by
 obtain⟨old,N⟩:=x.en;obtain⟨o,p,J,o0⟩:=x.li
 rcases Qw.mp f with rfl|f
 ·exact⟨x.be,x.ne,hJ N<|by simp⟩
 ·rw[Qj.mp f];exact⟨x.bi,x.ni,hJ p<|by rw[J];simp⟩
theorem ol:∀ {l:List PV} {n i:Nat} {x:PV},(enumL n l)[i]? =Ja x->∃p,l[i]? =Ja p/\x= .tup [.int ((n+i:Nat):Int),p]
 |[],_,_,_,h=>by exact ns h
 |p::r,n,i,x,h=>by
  induction i using Nat.casesOn with
  |zero=>obtain rfl:=sj h;exact⟨p,rfl,rfl⟩
  |succ i=>
   obtain⟨q,N,Y⟩:=ol (l:=r) (n:=n+1) (i:=i) h;exact⟨q,N,by rw[Y,QI];rfl⟩
theorem o8:∀ (l:List PV) (n:Nat),(enumL n l).length=l.length
 |[],_=>rfl
 |_::r,n=>Ud (· +1)<|o8 r (n+1)
theorem Src.enum(u:A.handled=Jb)(E:List Jl)(tk:Nat)(pos:Pos)(e g a:Jg)(d:e≠g)(l:List PV):
  Src C A (.Tuple E tk pos) e [e,g] (enumL 0 l) (λσ=>onL σ (λT=>T=l)<|.ref a) (λi σ h=>EnAt C e g a i σ h) where
 hdn:=u
 step:=λx t U=>by
  obtain⟨old,N⟩:=x.en;obtain⟨o,Y,J,h4⟩:=x.li;obtain⟨k1,o1,k,B⟩:=t.keep _ _ N x.ne;rw[(B λq=>absurd q<|U _ (.head _)).eq (by simp)] at k;obtain⟨j1,P,j2,j3⟩:=t.keep _ o Y x.ni;have y:=j3 λq=>absurd q<|U _ (.tail _<|.head _);exact⟨k1,j1,x.be,x.bi,⟨old,k⟩,P,j2,y.1.trans J,y.2.2.1.trans h4⟩
 mv:=λx mv z W=>by
  obtain⟨old,N⟩:=x.en;obtain⟨o,Y,J⟩:=x.li;exact⟨x.ne,x.ni,x.be,x.bi,⟨old,mv _ _ (W _<|.head _) N⟩,o,mv _ o (W _<|.tail _ (.head _)) Y,J⟩
 fok:=λx=>x.fok
 item:=λ{i x σ s R Q} hx m Z t X=>by
  obtain⟨o0,T,b,L,rfl⟩:=eN Z;cases b;obtain⟨p,hp,rfl⟩:=ol hx;obtain⟨D,n,S,j⟩:=m.list L;obtain⟨v,e2,r⟩:=j.get i p hp;obtain⟨old,N⟩:=t.en;refine wpAny_pyNext_enum_item N t.li ⟨_,S,rfl,n,rfl⟩ (x:=v) (by simpa using e2) d λh' y1 O y3 y4 M=> ?_;refine X _ _ λK aa hK=> ?_;refine wpAny_letOwnedTupleGo_enum y1 λY z2 G=> ?_;have mv:Mv (· ∈ [e,g]) s.heap Y:=λc o f w=>G.extBut _ _ (λq=>f<|q▸ .head _)<|M c o (λq=>f<|q▸ .head _) (λq=>f<|q▸ .tail _ (.head _)) w;have z:=t.fok;have V:s.heap.objs.size≠e:=WH<|QO N;obtain⟨P,f1,f2⟩:=O;refine hK _ ⟨s.heap.objs.size,0,#[.int i s.toks,v],rfl,m.fresh<|Qy _,G.extBut _ _ V y3,.int i s.toks,[v],rfl,⟨s.toks,by rw[KR]⟩,v,[],rfl,r.mv mv z,rfl⟩ (m.mv mv z) mv ⟨t.ne,t.ni,t.be,t.bi,⟨v,z2⟩,P,G.extBut _ _ (Ne.symm d) f1,f2⟩ ⟨rfl,rfl⟩
 done:=λ{σ s R Q} m Z t X=>by
  obtain⟨o0,T,b,L,rfl⟩:=eN Z;cases b;obtain⟨D,n,S,j⟩:=m.list L;obtain⟨old,N⟩:=t.en;have H:D.size=T.length:=by simpa using j.length
  rw[o8] at t N;refine wpAny_pyNext_enum_end u N t.li ⟨_,S,rfl,n,rfl⟩ (by simp[H]) λh' I=> ?_;have mv:Mv (· ∈ [e,g]) s.heap h':=λc o f w=>I c o (λq=>f<|q▸ .tail _ (.head _)) w;exact X _ (m.mv mv t.fok) mv ⟨rfl,rfl⟩
 self:=λt X=>by obtain⟨old,N⟩:=t.en;exact wpAny_pyIter_enum N X
def qa(t:Jl):Prop:=X3 λe k p=>t= .Tuple e k p
def sV(C:Cx)(A:Jj)(k:IK)(v:List Jf)(R Er:Jf->Je->Prop)(s:Je):Prop:=
 match k with
 | .val=>Jh (Mo C) A (YQ<|v.headD .none) R Er s
 | .range=>Jh (Mo C) A (call (.type "range") v) (λx W=>Jh (Mo C) A (YQ x) R Er W) Er s
 | .enum=>Jh (Mo C) A (call (.type "enumerate") v) (λx W=>Jh (Mo C) A (YQ x) R Er W) Er s
def mU(C:Cx)(k:IK):Prop:=∀ (A:Jj) (t:Jl) (w:List PV) (v:List Jf) (σ:PH) (s:Je) (K:List PV->(PH->Prop)->PH->Prop) (R E:Jf->Je->Prop),
 A.handled=Jb->(k= .enum->qa t)->VRs C σ s.heap w v->Sim C σ s.heap->src k w σ (λx c=>x.length<=lim/\K x c σ)->
 (∀x c I f S m W,Src C A t I f x c S->S 0 m W.heap->Sim C m W.heap->Step none1 σ s.heap m W.heap->Rest s W->(∀b∈f,s.heap.get? b=Jb/\b<W.heap.objs.size)->x.length<=lim->K x c m->R (.ref I) W)->
 sV C A k v R E s
theorem iD(h:Ji)(e:h.objs.size<=a):h.get? a=Jb:=by
 induction q:h.get? a with
 |none=>rfl
 |some o=>exact absurd (QO q)<|Kc.mpr e
theorem xq{K:List PV->(PH->Prop)->Prop}(s:src .val vs σ K):(X2 λa l=>A3 (vs=[.ref a]) (σ a=Ja (.list l)) (K l λσ'=>σ' a=Ja (.list l)))\/(∃l,vs=[.tup l]/\K l λo0=>True):=by
 rcases vs with o0|⟨p,o0|⟨o0,o0⟩⟩
 ·exact s.elim
 ·rcases p with o0|o0|o0|o0|l|a|o0<;>first|exact s.elim|exact .inr ⟨l,rfl,s⟩|skip
  obtain⟨o0,l,e,T,w⟩:=eN (show onL σ (λl=>K l λσ'=>σ' a=Ja (.list l)) (.ref a) from s);cases e;exact .inl ⟨a,l,rfl,T,w⟩
 ·rcases p with⟨⟩<;>exact s.elim
theorem nC{h:Ji}{i:Ji}(n:i.objs.size<=h.objs.size)(R:b∈ [h.objs.size]):i.get? b=Jb/\b<(h.push o).objs.size:=by
 rw[Qj] at R;subst R;exact⟨iD _ n,by rw[KN];exact QN _⟩
theorem uD:mU C .val:=by
 intro A t J H σ s K R E U _ hv m G X;show Jh (Mo C) A (YQ<|H.headD .none) R E s
 rcases xq G with⟨a,l,rfl,e,w⟩|⟨l,rfl,w⟩
 ·obtain⟨v,rfl,d⟩:=hv.one;rw[show v= .ref a from d];obtain⟨J,n,g,c⟩:=m.list e;refine wpAny_pyIter_list ⟨_,g,rfl,n,rfl⟩ ?_;exact X _ _ s.heap.objs.size _ _ σ _ (Src.list U t _ a l) ⟨m.fresh<|Qy _,m.freshB<|Qy _,⟨_,QK _ rfl,rfl,rfl⟩⟩ (m.push _) (.push _ _ _ _) ⟨rfl,rfl⟩ (λb o=>nC (Qy _) o) w.1 w.2
 ·obtain⟨v,rfl,d⟩:=hv.one;have hv:=d;obtain⟨a,n,J,rfl,I,g,c⟩:=d;refine wpAny_pyIter_tuple ⟨_,g,rfl,n,rfl⟩ ?_;exact X _ _ s.heap.objs.size _ _ σ _ (Src.tuple U t _ a l) ⟨m.fresh<|Qy _,m.freshB<|Qy _,⟨_,QK _ rfl,rfl,rfl⟩,hv.step<|.push none1 _ _ _⟩ (m.push _) (.push _ _ _ _) ⟨rfl,rfl⟩ (λb o=>nC (Qy _) o) w.1 w.2
theorem qh:mU C .range:=by
 intro A t w a σ s K R r U _ hv m E X;show Jh (Mo C) A (call (.type "range") a) (λx W=>Jh (Mo C) A (YQ x) R r W) r s
 match w,E with
 |[p],E=>
  obtain⟨n,rfl,g,l,P⟩:=dw (show onInt (λn=> -1000000<n/\((Qc n.toNat).map λ(i:Nat)=>PV.int i).length<=lim/\K ((Qc n.toNat).map λ(i:Nat)=>PV.int i) (λo0=>True) σ) p from E);obtain⟨v,rfl,tk,rfl⟩:=hv.one;have T:n<=1000000:=by
   simp only[Qd,QA,lim] at l;exact Int.toNat_le.mp l
  have z:Builtin.Range.rangeSize 0 n 1=(n.toNat:Int):=by rw[rangeSize_one 0 n];exact zrs n
  refine call_range_1 ?_;refine wpAny_pyIter_range (IsRange.new ..) (small_one (by decide) (by decide) (by exact QL (by decide)<|WY g)<|by exact Int.lt_of_le_of_lt T<|by decide) ?_;rw[z];have c:=m.push {cls:= .type "range",data:= .fields #[.int 0 s.toks,.int n tk,.int 1 (s.toks+1)]};refine X _ _ _ _ _ σ _ (Src.range U t _ n.toNat) ⟨c.fresh<|Qy _,c.freshB<|Qy _,QT _,?_⟩ (c.push _) ((Step.push _ _ _ _).trans (.push _ _ _ _)) ⟨rfl,rfl⟩ (λb H=>nC (by rw[KN];exact Wf _) H) l P;have e:=QK (s.heap.push {cls:= .type "range",data:= .fields #[.int 0 s.toks,.int n tk,.int 1 (s.toks+1)]}) (o:={cls:= .type "range_iterator",data:= .fields #[Jx 0,Jx n.toNat,Jx 1]}) rfl
  simpa using e
theorem rG:mU C .enum:=by
 intro A t J H σ s K R r U L hv m E P;show Jh (Mo C) A (call (.type "enumerate") H) (λx W=>Jh (Mo C) A (YQ x) R r W) r s;obtain⟨N,tk,o,rfl⟩:=L rfl
 match J,E with
 |[p],E=>
  obtain⟨a,l,rfl,e,w⟩:=eN (show onL σ (λl=>(enumL 0 l).length<=lim/\K (enumL 0 l) (λX=>onL X (λT=>T=l) p) σ) p from E);obtain⟨v,rfl,d⟩:=hv.one;rw[show v= .ref a from d];obtain⟨J,n,f,j⟩:=m.list e;refine call_enumerate_list ⟨_,f,rfl,n,rfl⟩ λh' z1 z2 z q=> ?_;refine wpAny_pyIter_enum z1 ?_;have k:∀c,s.heap.objs.size<=c->s.heap.get? c=Jb:=λc Z=>iD _ Z;refine P _ _ (s.heap.objs.size+1) _ _ σ _ (Src.enum U N tk o (s.heap.objs.size+1) s.heap.objs.size a (Nat.succ_ne_self _) l) ⟨m.fresh<|Wf _,m.fresh<|Qy _,m.freshB<|Wf _,m.freshB<|Qy _,⟨_,z1⟩,z2⟩ (m.more q) (.more q) ⟨rfl,rfl⟩ (λb g=> ?_) w.1 w.2
  rcases Qw.mp g with rfl|g
  ·exact⟨k _<|Wf _,by show _<h'.objs.size;rw[z];exact QN _⟩
  ·rw[Qj.mp g];exact⟨k _<|Qy _,by show _<h'.objs.size;rw[z];exact Wy<|QN _⟩
end
end
theorem Rho.get_put:∀ {ρ:Rho} {y:String} {q:PV},(ρ.put x v).get y=Ja q->(y=x/\q=v)\/(y≠x/\ρ.get y=Ja q):=λ{ρ} y q=>by
 induction ρ with
 |nil=>exact λh=>ns h
 |cons p r i=>
  obtain⟨z,o⟩:=p;intro h;rw[Rho.put_c] at h;rw[Rho.get_c];by_cases T:z=x
  ·rw[Ua T,Rho.get_c] at h;by_cases W:z=y
   ·rw[Ua W] at h;exact .inl ⟨W.symm.trans T,(sj h).symm⟩
   ·rw[Y9 W] at h;rw[Y9 W];exact .inr ⟨λe=>W<|T.trans e.symm,h⟩
  ·rw[Y9 T,Rho.get_c] at h;by_cases W:z=y
   ·rw[Ua W] at h ⊢;exact .inr ⟨λe=>T<|W.trans e,h⟩
   ·rw[Y9 W] at h ⊢;exact i h
theorem Rho.get_put_ne:∀ {ρ:Rho} {y:String},y≠x->(ρ.put x v).get y=ρ.get y:=λ{ρ} y h=>by
 induction ρ with
 |nil=>rfl
 |cons p r i=>
  obtain⟨z,o⟩:=p;rw[Rho.put_c,Rho.get_c];by_cases T:z=x
  ·rw[Ua T,Rho.get_c,Y9 λe=>h<|e.symm.trans T,Y9 λe=>h (e.symm.trans T)]
  ·rw[Y9 T,Rho.get_c,i]
theorem Rho.get_puts_ne:∀ {xs:List String} {vs:List PV} {ρ:Rho} {y:String},y∉xs->(ρ.puts xs vs).get y=ρ.get y
 |[],vs=>λh=>rfl
 |x::xs,[]=>λh=>rfl
 |x::xs,v::vs=>λh=>by
  show(Rho.puts (Rho.put _ x v) xs vs).get _=_;rw[Rho.get_puts_ne (λe=>h<|KC _ e),Rho.get_put_ne (by rintro rfl;exact h Wa)]
theorem jD{tg:Tg}{ρ:Rho}(h:(blank tg ρ).get y=Ja q):y≠".0"/\y∉tg.names/\ρ.get y=Ja q:=by
 have h:(if ".0"=y then Jb else Rho.get ((tg.names.map λx=>(x,Jb))++ρ) y)=Ja q:=h;by_cases i:".0"=y
 ·exact ns<|(Ua i).symm.trans h
 rw[Y9 i] at h;refine⟨λe=>i e.symm,?_⟩;generalize tg.names=l at h
 induction l with
 |nil=>exact⟨by simp,h⟩
 |cons x r W=>
  have h:(if x=y then Jb else Rho.get (r.map (λx=>(x,Jb))++ρ) y)=Ja q:=h;by_cases hx:x=y
  ·exact ns<|(Ua hx).symm.trans h
  ·rw[Y9 hx] at h;obtain⟨a,b⟩:=W h;exact⟨by simp only[Qw,not_or];exact⟨λe=>hx e.symm,a⟩,b⟩
set_option tactic.hygienic true in
theorem sy{ρ ρ':Rho}(h:bindC tg v ρ=Ja ρ')(e:(blank tg ρ).get y=Ja q):ρ'.get y=Ja q:=by
 obtain⟨o0,n,o0⟩:=jD e
 induction tg with
 |name x=>
  obtain rfl:=sj (show Ja ((blank (.name x) ρ).put x v)=Ja ρ' from h);exact(Rho.get_put_ne λq=>n<|Qj.mpr q).trans e
 |tup P=>
  induction v using PV.casesOn with
  |tup w=>
   have h:(if w.length=P.length then Ja ((blank (.tup P) ρ).puts P w) else Jb)=Ja ρ':=h;by_cases l:w.length=P.length
   ·obtain rfl:=sj<|(Ua l).symm.trans h;exact(Rho.get_puts_ne n).trans e
   ·exact ns<|(Y9 l).symm.trans h
  |_=>exact ns h
section
variable{C:Cx}{A:Jj}{Er:Jf->Je->Prop}{env:Js}{ρ:Rho}{σ:PH}{s:Je}
theorem EnvR.weak{ρ':Rho}(x:EnvR C env ρ σ h)(k:∀y q,ρ'.get y=Ja q->ρ.get y=Ja q):EnvR C env ρ' σ h:=
 ⟨x.fn,x.glob,x.blt,by obtain⟨m,a,b⟩:=x.ns;exact⟨m,a,λy p e=>b y p<|k y p e⟩,λy p e=>x.cell y p<|k y p e,x.newL,x.baseL,x.baseC,x.newC,x.apart,x.hasC⟩
noncomputable def slot(env:Js)(xs:List String):Jg->Prop:=λb=>∃x∈xs,(env.kindOf (Qb x)=Ja .local/\b=env.locals)\/(env.kindOf (Qb x)=Ja .cell/\env.cells.lookup (Qb x)=Ja b)
structure Asg(C:Cx)(env:Js)(F:Jg->Prop)(σ:PH)(h h':Ji):Prop where
 mv:Mv F h h'
 fok:Fok C σ h F
 frs:∀l,Frs C σ h l->Frs C σ h' l
 sim:Sim C σ h'
 has:∀c,F c->(∀o,h.get? c=Ja o->¬isSeq o)/\∃o,h'.get? c=Ja o/\¬isSeq o
theorem d7{o:Jp}(h:o.data= .dict es n):¬isSeq o:=λz=>by obtain⟨x,n,e⟩:=z;rw[h] at e;cases e
theorem fW{o:Jp}(h:o.data= .cell v):¬isSeq o:=λz=>by obtain⟨x,n,e⟩:=z;rw[h] at e;cases e
theorem iF{h:Ji}(e:h.get? c=Ja o)(q:¬isSeq o):∀vs n,h.get? c≠Ja (tupO vs n):=λvs n x=>by obtain rfl:=sj<|e.symm.trans x;exact q ⟨vs,n,rfl⟩
theorem p5{K:Unit->Je->Prop}(W:EnvR C env ρ σ s.heap)(m:Sim C σ s.heap)
  (hx:env.kindOf (Qb x)=Ja .local\/env.kindOf (Qb x)=Ja .cell)(hv:VR C σ s.heap p v)
  (hK:∀s',Asg C env (slot env [x]) σ s.heap s'.heap->EnvR C env (ρ.put x p) σ s'.heap->Rest s s'->K () s'):Jh (Mo C) A (storeName env (Qb x) v) K Er s:=by
 rcases hx with hx|hx
 ·obtain⟨mm,n,z⟩:=W.ns;have hp:(env.scope.kind== .class||(env.scope.kind== .module&&env.locals !=env.globals))=Jd:=by rw[W.fn];rfl
  refine wpAny_storeName_local hx n (λH I h=> ?_) hp;have j:∀c,slot env [x] c->c=env.locals:=by
   rintro c ⟨y,Q,q|q⟩
   ·exact q.2
   ·rw[Qj] at Q;subst Q;rw[hx] at q;cases q.1
  obtain⟨o,es,ep,Y,G,o0⟩:=id n;obtain⟨i,g,aa,J,S,o0⟩:=id I;have mv:Mv (slot env [x]) s.heap H:=λc o f e=>h.extBut c o (λq=>f ⟨x,Qj.mpr rfl,.inl ⟨hx,q⟩⟩) e;have N:Fok C σ s.heap (slot env [x]):=λc f=>by
   have:=j c f;subst this;exact⟨W.baseL,W.newL,iF Y<|d7 G⟩
  refine hK _ ⟨mv,N,λl f=> ?_,m.mv mv N,λc f=> ?_⟩ ?_ ⟨rfl,rfl⟩
  ·intro M O;obtain⟨k,L,P,B,D,T,F,X,u,V⟩:=f M O;by_cases q:L=env.locals
   ·subst q;exact⟨k,_,i,g,aa,T,F,X,J,S⟩
   ·exact⟨k,L,P,B,D,T,F,X,h.extBut _ _ q u,V⟩
  ·have:=j c f;subst this;exact⟨λP q=>by obtain rfl:=sj<|Y.symm.trans q;exact d7 G,i,J,d7 S⟩
  ·have nc:∀y c,env.cells.lookup y=Ja c->c≠env.locals:=by
    rintro y c q rfl;obtain⟨o0,v1,P,U,R⟩:=W.newC y _ q;obtain rfl:=sj<|Y.symm.trans U;rw[G] at R;cases R
   refine⟨W.fn,W.glob,W.blt,⟨_,I,λy q T F=> ?_⟩,λy q T F=> ?_,W.newL,W.baseL,W.baseC,λy c e=> ?_,W.apart,W.hasC⟩
   ·rcases Rho.get_put T with⟨rfl,rfl⟩|⟨ne,T⟩
    ·exact⟨v,Ua rfl,hv.mv mv N⟩
    ·obtain⟨w,a,b⟩:=z y q T F;exact⟨w,by rw[Y9 (λe=>ne<|ofString_inj e)];exact a,b.mv mv N⟩
   ·rcases Rho.get_put T with⟨rfl,rfl⟩|⟨ne,T⟩
    ·rw[hx] at F;rcases F with F|F<;>cases F
    ·obtain⟨c,w,a,b,d⟩:=W.cell y q T F;exact⟨c,w,a,b.sameBut h<|nc _ c a,d.mv mv N⟩
   ·obtain⟨a,w,b⟩:=W.newC y c e;exact⟨a,w,b.sameBut h<|nc _ c e⟩
 ·obtain⟨c,Z⟩:=W.hasC _<|.inl hx;obtain⟨ab,ac,t⟩:=W.newC _ c Z;refine wpAny_storeName_cell W.fn hx Z t λH E h=> ?_;have j:∀d,slot env [x] d->d=c:=by
   rintro d ⟨y,Q,q|q⟩
   ·rw[Qj] at Q;subst Q;rw[hx] at q;cases q.1
   ·rw[Qj] at Q;subst Q;rw[Z] at q;obtain rfl:=sj q.2;rfl
  obtain⟨o,Y,G⟩:=id t;obtain⟨i,J,S⟩:=id E;have mv:Mv (slot env [x]) s.heap H:=λd o f e=>h.extBut d o (λq=>f ⟨x,Qj.mpr rfl,.inr ⟨hx,by rw[q];exact Z⟩⟩) e;have N:Fok C σ s.heap (slot env [x]):=λd f=>by
   have:=j d f;subst this;exact⟨W.baseC _ _ Z,ab,iF Y<|fW G⟩
  refine hK _ ⟨mv,N,λl f=> ?_,m.mv mv N,λd f=> ?_⟩ ?_ ⟨rfl,rfl⟩
  ·intro M O;obtain⟨k,L,P,B,D,T,F,X,u,V⟩:=f M O;have q:L≠c:=by rintro rfl;obtain rfl:=sj<|Y.symm.trans u;rw[G] at V;cases V
   exact⟨k,L,P,B,D,T,F,X,h.extBut _ _ q u,V⟩
  ·have:=j d f;subst this;exact⟨λP q=>by obtain rfl:=sj<|Y.symm.trans q;exact fW G,i,J,fW S⟩
  ·obtain⟨mm,n,z⟩:=W.ns;have nl:env.locals≠c:=by
    rintro q;obtain⟨P,es,ep,U,R,o0⟩:=n;rw[q,Y] at U;obtain rfl:=sj U;rw[G] at R;cases R
   refine⟨W.fn,W.glob,W.blt,⟨mm,Ns.like n λo e=>⟨o,h.extBut _ _ nl e,.refl o⟩,λy q T F=> ?_⟩,λy q T F=> ?_,W.newL,W.baseL,W.baseC,λy d e=> ?_,W.apart,W.hasC⟩
   ·rcases Rho.get_put T with⟨rfl,rfl⟩|⟨ne,T⟩
    ·rw[hx] at F;cases F
    ·obtain⟨w,a,b⟩:=z y q T F;exact⟨w,a,b.mv mv N⟩
   ·rcases Rho.get_put T with⟨rfl,rfl⟩|⟨ne,T⟩
    ·exact⟨c,v,Z,E,hv.mv mv N⟩
    ·obtain⟨d,w,a,b,r⟩:=W.cell y q T F;have:d≠c:=by rintro rfl;exact ne (ofString_inj<|W.apart _ _ _ a Z)
     exact⟨d,w,a,b.sameBut h this,r.mv mv N⟩
   ·obtain⟨a,w,b⟩:=W.newC y d e;by_cases q:d=c
    ·subst q;exact⟨a,Ja v,E⟩
    ·exact⟨a,w,b.sameBut h q⟩
theorem Asg.refl{F:Jg->Prop}{h:Ji}(m:Sim C σ h)(fo:Fok C σ h F)(a:∀c,F c->∃o,h.get? c=Ja o/\¬isSeq o):Asg C env F σ h h:=
 ⟨.refl,fo,λo0 f=>f,m,λc f=>by obtain⟨o,e,q⟩:=a c f;exact⟨λP T=>by obtain rfl:=sj<|e.symm.trans T;exact q,o,e,q⟩⟩
theorem Asg.trans{F I:Jg->Prop}{h S H:Ji}(x:Asg C env F σ h S)(y:Asg C env I σ S H):Asg C env (λc=>F c\/I c) σ h H where
 mv:=λc o f e=>y.mv c o (λq=>f<|.inr q)<|x.mv c o (λq=>f<|.inl q) e
 fok:=λc f=>by
  by_cases q:F c
  ·exact x.fok c q
  ·rcases f with f|f
   ·exact absurd f q
   ·obtain⟨a,d,V⟩:=y.fok c f;exact⟨a,d,λv n e=>V v n<|x.mv c _ q e⟩
 frs:=λl f=>y.frs l<|x.frs l f
 sim:=y.sim
 has:=λc f=>by
  by_cases q:I c
  ·obtain⟨a,b⟩:=y.has c q;refine⟨λo e=> ?_,b⟩;by_cases Z:F c
   ·exact(x.has c Z).1 o e
   ·exact a o<|x.mv c o Z e
  ·rcases f with f|f
   ·obtain⟨a,o,e,b⟩:=x.has c f;exact⟨a,o,y.mv c o q e,b⟩
   ·exact absurd f q
theorem Asg.mono{F I:Jg->Prop}{h S:Ji}(x:Asg C env F σ h S)(k:∀c,I c↔F c):Asg C env I σ h S:=
 ⟨x.mv.mono λc f=>(k c).mpr f,λc f=>x.fok c<|(k c).mp f,x.frs,x.sim,λc f=>x.has c<|(k c).mp f⟩
theorem rF:slot env (x::xs) c↔(slot env [x] c\/slot env xs c):=by
 constructor
 ·rintro ⟨y,h,q⟩
  rcases Qw.mp h with rfl|h
  ·exact .inl ⟨y,Qj.mpr rfl,q⟩
  ·exact .inr ⟨y,h,q⟩
 ·rintro (⟨y,h,q⟩|⟨y,h,q⟩)
  ·rw[Qj] at h;subst h;exact⟨y,Wa,q⟩
  ·exact⟨y,KC _ h,q⟩
theorem j0{K:Unit->Je->Prop}(e:EnvR C env ρ σ s.heap)(m:Sim C σ s.heap)
  (hx:env.kindOf (Qb x)=Ja .local\/env.kindOf (Qb x)=Ja .cell)(hv:VR C σ s.heap p v)
  (h:∀s',Asg C env (slot env [x]) σ s.heap s'.heap->EnvR C env (ρ.put x p) σ s'.heap->Rest s s'->K () s'):Jh (Mo C) A (assign (.Name (Qb x) pos) env v) K Er s:=
 wpAny_assign_Name (p5 e m hx hv h)
theorem pK(h:eE sc (x::xs) (.Name y pos::es)=Jc):y=Qb x/\isOwn sc y=Jc/\eE sc xs es=Jc:=by
 have h:=Qg.mp (show((((Vl.Internal.nm y x&&isOwn sc y)&&bD y)&& !xs.contains x)&&eE sc xs es)=Jc from h);have N:=Qg.mp (Qg.mp (Qg.mp h.1).1).1;exact⟨beq_iff_eq.mp N.1,N.2,h.2⟩
theorem uc(h:mTg sc (.name x) (.Name y pos)=Jc):y=Qb x/\isOwn sc y=Jc:=by
 have h:=Qg.mp (Qg.mp (show((Vl.Internal.nm y x&&isOwn sc y)&&bD y)=Jc from h)).1;exact⟨beq_iff_eq.mp h.1,h.2⟩
theorem ju:∀ {xs:List String} {es:List Jl} {ps:List PV} {vs:List Jf} {ρ:Rho} {s:Je} {K:Unit->Je->Prop},eE sc xs es=Jc->EnvR C env ρ σ s.heap->Sim C σ s.heap->
  (∀x∈xs,env.kindOf (Qb x)=Ja .local\/env.kindOf (Qb x)=Ja .cell)->VRs C σ s.heap ps vs->ps.length=xs.length->
  (∀s',Asg C env (slot env xs) σ s.heap s'.heap->EnvR C env (ρ.puts xs ps) σ s'.heap->Rest s s'->K () s')->Jh (Mo C) A (assignInOrder ((JM es env).map (·.2)) vs) K Er s
 |[],[],ps,vs,ρ,s,K,hm,ev,m,hx,hv,hl,hK=>by
  have:ps=[]:=Yb.mp hl;subst this;change _=_ at hv;subst hv;exact YH<|hK s (.refl m (λc z'=>by obtain⟨y,hy,o0⟩:=z';cases hy) (λc z'=>by obtain⟨y,hy,_⟩:=z';cases hy)) ev ⟨rfl,rfl⟩
 |[],_::_,_,_,_,_,_,hm,_,_,_,_,_,_=>by exact ft hm
 |x::xs,[],_,_,_,_,_,hm,_,_,_,_,_,_=>by exact ft hm
 |x::xs,e::es,ps,vs,ρ,s,K,hm,ev,m,hx,hv,hl,hK=>by
  induction e using Expr.casesOn with
  |Name y pos=>
   obtain⟨rfl,o0,hm⟩:=pK hm
   induction ps using List.casesOn with
   |nil=>simp at hl
   |cons p ps=>
    obtain⟨v,r,rfl,hv,hr⟩:=hv;show Jh _ _ (holding r (assign _ env v)>>=λo0=>assignInOrder ((JM es env).map (·.2)) r) K Er s;refine YG<|YJ (j0 ev m (hx x Wa) hv λs1 a1 ev1 r1=> ?_);refine ju hm ev1 a1.sim (λy hy=>hx y<|KC _ hy) (hr.mv a1.mv a1.fok) (by simpa using hl) λs2 a2 ev2 r2=> ?_;exact hK s2 ((a1.trans a2).mono λc=>rF) ev2<|r1.trans r2
  |_=>first|exact bnx hm|exact onx hm|cases hm
theorem lq:∀ {xs:List String} {es:List Jl},eE sc xs es=Jc->(JM es env).length=xs.length/\(JM es env).findIdx? (·.1)=Jb
 |[],[]=>λo0=>⟨rfl,rfl⟩
 |[],_::_=>λhm=>by exact ft hm
 |x::xs,[]=>λhm=>by exact ft hm
 |x::xs,e::es=>λhm=>by
  induction e using Expr.casesOn with
  |Name y pos=>
   obtain⟨a,b⟩:=lq (pK hm).2.2;refine⟨Ud (· +1) a,?_⟩;show List.findIdx? (·.1) ((Jd,_)::JM es env)=Jb;rw[List.findIdx?_cons,b];rfl
  |_=>first|exact bnx hm|exact onx hm|cases hm
theorem iB{tg:Tg}{K:Unit->Je->Prop}(hh:tg.isT=Jc->A.handled=Jb)(ht:mTg sc tg t=Jc)(ev:EnvR C env ρ σ s.heap)(m:Sim C σ s.heap)
  (hx:∀x∈tg.names,env.kindOf (Qb x)=Ja .local\/env.kindOf (Qb x)=Ja .cell)(hv:VR C σ s.heap p v)(hb:bindT tg p ρ=Ja ρ')
  (hK:∀s',Asg C env (slot env tg.names) σ s.heap s'.heap->EnvR C env ρ' σ s'.heap->Rest s s'->K () s'):Jh (Mo C) A (assign t env v) K Er s:=by
 induction tg with
 |name x=>
  induction t using Expr.casesOn with
  |Name y pos=>
   obtain⟨rfl,o0⟩:=uc ht;obtain rfl:=sj (show Ja (ρ.put x p)=Ja ρ' from hb);exact j0 ev m (hx x<|Qj.mpr rfl) hv hK
  |_=>first|exact bnx ht|exact onx ht|cases ht
 |tup xs=>
  induction t using Expr.casesOn with
  |Tuple es a b=>
   replace ht:eE sc xs es=Jc:=ht
   induction p using PV.casesOn with
   |tup ps=>
    have hb:(if ps.length=xs.length then Ja (ρ.puts xs ps) else Jb)=Ja ρ':=hb;by_cases hl:ps.length=xs.length
    ·obtain rfl:=sj<|(Ua hl).symm.trans hb;obtain⟨a,n,vs,rfl,es',g1,g2⟩:=hv;obtain⟨q1,q2⟩:=lq (env:=env) ht;have hsz:vs.size=ps.length:=by simpa using g2.length
     refine wpAny_assign_Tuple (hh rfl) ⟨_,g1,rfl,n,rfl⟩ (by rw[q1,hsz,hl]) q2 λh' he=> ?_;have kp:∀b o,s.heap.get? b=Ja o->h'.get? b=Ja o:=λb o e=>he b o (WZ<|QO e) e;have st:Step none1 σ s.heap σ h':= .more kp;refine ju (s:={s with heap:=h'}) ht (ev.step st) (m.more kp) hx (g2.step st) hl λs2 a2 ev2 r2=> ?_;refine hK s2 ⟨λc o f e=>a2.mv c o f<|kp c o e,λc f=> ?_,λl f=>a2.frs l<|f.step st λo0 o0 o0 o0 q=>q,a2.sim,λc f=> ?_⟩ ev2 r2
     ·obtain⟨q3,b1,b2⟩:=a2.fok c f;exact⟨q3,b1,λvs n e=>b2 vs n<|kp c _ e⟩
     ·obtain⟨q3,q4⟩:=a2.has c f;exact⟨λo e=>q3 o<|kp c o e,q4⟩
    ·exact ns<|(Y9 hl).symm.trans hb
   |_=>exact ns hb
  |_=>first|exact bnx ht|exact onx ht|cases ht
end
theorem bU{L:Type}{x y:Jq}{v:L}{l:List (Jq×L)}(h:x≠y):YE x ((y,v)::l)=YE x l:=by
 rw[Yp,beq_eq_false_iff_ne.mpr h]
theorem lookup_cons_self{L:Type}{x:Jq}{v:L}{l:List (Jq×L)}:YE x ((x,v)::l)=Ja v:=by
 rw[Yp,beq_self_eq_true]
theorem iX{env:Js}:∀ (names:List (Jq×JV)) (acc:List (Jq×Jg)),(∀n,(n,NameKind.free)∈names->∃c,env.cells.lookup n=Ja c)->(∀x c,acc.lookup x=Ja c->env.cells.lookup x=Ja c)->
  ∃cl,(forIn names acc (λ(p:Jq×JV) (cs:List (Jq×Jg))=>if(p.2==NameKind.free)=Jc then do let a<-cellOf env p.1;pure (ForInStep.yield ((p.1,a)::cs)) else pure (ForInStep.yield cs)):Sem _)=pure cl/\
   (∀x c,cl.lookup x=Ja c->env.cells.lookup x=Ja c)/\(∀x,((x,NameKind.free)∈names\/(acc.lookup x).isSome)->(cl.lookup x).isSome)
 |[]=>λacc o0 ha=>⟨acc,rfl,ha,λx h=>h.elim (λq=>by cases q) id⟩
 |(n,k)::r=>λacc hf ha=>by
  by_cases hk:k= .free
  ·subst hk;obtain⟨c,hc⟩:=hf n Wa;obtain⟨cl,e1,e2,e3⟩:=iX r ((n,c)::acc) (λy hy=>hf y (KC _ hy)) (λx d hx=>by
    by_cases q:x=n
    ·subst q;obtain rfl:=sj<|lookup_cons_self.symm.trans hx;exact hc
    ·rw[bU q] at hx;exact ha x d hx)
   refine⟨cl,?_,e2,λx h=>e3 x ?_⟩
   ·rw[List.forIn_cons];simp only[beq_self_eq_true,if_true];have:cellOf env n=pure c:=by unfold cellOf;rw[hc]
    rw[this];exact e1
   ·rcases h with h|h
    ·rcases Qw.mp h with h|h
     ·cases h;right;rw[lookup_cons_self];rfl
     ·exact .inl h
    ·right
     by_cases q:x=n
     ·subst q;rw[lookup_cons_self];rfl
     ·rw[bU q];exact h
  ·obtain⟨cl,e1,e2,e3⟩:=iX r acc (λy hy=>hf y<|KC _ hy) ha;refine⟨cl,?_,e2,λx h=>e3 x ?_⟩
   ·rw[List.forIn_cons];have:(k==NameKind.free)=Jd:=by simpa using hk
    simp only[this,Bool.false_eq_true,if_false];exact e1
   ·rcases h with h|h
    ·rcases Qw.mp h with h|h
     ·cases h;exact absurd rfl hk
     ·exact .inl h
    ·exact .inr h
theorem lI{env:Js}{scope:Jk}(hf:∀n,(n,NameKind.free)∈scope.names->∃c,env.cells.lookup n=Ja c):
  ∃cl,closureFor scope env=pure cl/\(∀x c,cl.lookup x=Ja c->env.cells.lookup x=Ja c)/\(∀x,(x,NameKind.free)∈scope.names->∃c,cl.lookup x=Ja c):=by
 obtain⟨cl,e1,e2,e3⟩:=iX scope.names [] hf (λx c h=>by simp at h);refine⟨cl,?_,e2,λx h=>Option.isSome_iff_exists.mp (e3 x (.inl h))⟩;simp only[closureFor];have:(forIn scope.names ([]:List (Jq×Jg)) (λ(x:Jq×JV) (cs:List (Jq×Jg))=>match x with
   |(name,kind)=>if(kind==NameKind.free)=Jc then do let a<-cellOf env name;pure (ForInStep.yield ((name,a)::cs)) else pure (ForInStep.yield cs)):Sem _)=pure cl:=e1
 first|exact this|(rw[this];rfl)
theorem f6:∀ (names:List (Jq×JV)) (n:Nat) (a:List (Jq×Jg)) (x:Jq),(x,NameKind.cell)∉names->(JO n names a).lookup x=a.lookup x
 |[]=>λo0 o0 o0 o0=>rfl
 |(y,k)::r=>λn a x h=>by
  have T:(x,NameKind.cell)∉r:=λq=>h<|KC _ q;unfold JO
  split
  ·rename_i M
   rw[f6 r (n+1) _ x T,bU];rintro rfl;have:k= .cell:=by simpa using M
   subst this;exact h Wa
  ·exact f6 r n a x T
theorem fx:∀ (names:List (Jq×JV)) (n:Nat) (u:List (Jq×Jg)) (x:Jq),(x,NameKind.cell)∈names->∃c,n<=c/\(JO n names u).lookup x=Ja c
 |(y,k)::r,n,u,x,h=>by
  by_cases T:(x,NameKind.cell)∈r
  ·unfold JO
   split
   ·obtain⟨c,a,b⟩:=fx r (n+1) ((y,n)::u) x T;exact⟨c,Kh a,b⟩
   ·exact fx r n u x T
  ·rcases Qw.mp h with h|h
   ·cases h;unfold JO;rw[Ua (by rfl)];refine⟨n,Qy _,?_⟩;rw[f6 r (n+1) _ _ T,lookup_cons_self]
   ·exact absurd h T
structure CellsR(h:Ji)(lo:Nat)(cs acc:List (Jq×Jg)):Prop where
 new:∀n c,cs.lookup n=Ja c->(lo<=c/\h.IsCell c Jb)\/acc.lookup n=Ja c
 apart:∀n n' c,lo<=c->cs.lookup n=Ja c->cs.lookup n'=Ja c->n=n'
theorem p8:∀ (names:List (Jq×JV)) (h:Ji) (v:Nat) (g u:List (Jq×Jg)),CellsR h v u g->(∀n c,u.lookup n=Ja c->c<h.objs.size)->v<=h.objs.size->
  CellsR (Y3 h names) v (JO h.objs.size names u) g
 |[]=>λo0 o0 o0 o0 x o0 o0=>x
 |(m,k)::r=>λh v g u x R l=>by
  unfold Y3 JO
  split
  ·have:=p8 r (h.push {cls:= .type "cell",data:= .cell Jb}) v g ((m,h.objs.size)::u)
    ⟨λn c L=>by
     by_cases q:n=m
     ·subst q;obtain rfl:=sj<|lookup_cons_self.symm.trans L;exact .inl ⟨l,⟨_,QK _ rfl,rfl⟩⟩
     ·rw[bU q] at L;exact(x.new n c L).imp (λz=>by obtain⟨a,b⟩:=z;exact⟨a,b.keeps λb o e=>Qz _ e⟩) id,
    λn X c Z N p=>by
     by_cases q:n=m
     ·subst q;obtain rfl:=sj<|lookup_cons_self.symm.trans N;by_cases B:X=n
      ·exact B.symm
      ·rw[bU B] at p;exact absurd (R X _ p)<|KJ _
     ·rw[bU q] at N;by_cases B:X=m
      ·subst B;obtain rfl:=sj<|lookup_cons_self.symm.trans p;exact absurd (R n _ N)<|KJ _
      ·rw[bU B] at p;exact x.apart n X c Z N p⟩
    (λn c L=>by
     rw[KN];by_cases q:n=m
     ·subst q;obtain rfl:=sj<|lookup_cons_self.symm.trans L;exact QN _
     ·rw[bU q] at L;exact Wy (R n c L)) (by rw[KN];exact WA l)
   rwa [KN] at this
  ·exact p8 r h v g u x R l
section
variable{C:Cx}{A:Jj}{E:Jf->Je->Prop}{s:Je}
noncomputable def compE(scope:Jk)(c:List (Jq×Jg))(L:Jg)(env:Js):Js:=
 {scope,locals:=L,globals:=env.globals,cells:=JO (L+1) scope.names c,qual:=env.qual,func:=Jb,code:=env.code,frame:=env.frame,builtins:=env.builtins}
theorem pk{env:Js}{scope:Jk}{Q:Js->Je->Prop}
  (h:Q (compE scope l s.heap.objs.size env) {s with heap:=Y3 (s.heap.push {cls:= .type "dict",data:= .dict #[]}) scope.names}):
  Jh (Mo C) A (newFunctionEnv scope env.globals l [] env.qual Jb .none (Ja env)) Q E s:=by
 simp only[newFunctionEnv,Option.isSome_some,if_true];refine YG<|wpAny_alloc ?_;refine YG<|wpAny_layCells _ (λn k c=>by cases P:k==NameKind.cell<;>simp) _ _ _ _ ?_;rw[show({s with heap:=s.heap.push {cls:= .type "dict",data:= .dict #[]}}:Je).heap.objs.size=s.heap.objs.size+1 from KN ..];exact YG<|YH (YH h)
theorem g6{f:Jq×JV->JV}:∀ {names:List (Jq×JV)} {x:Jq},(names.map λp=>(p.1,f p)).lookup x=(names.lookup x).map λk=>f (x,k)
 |[],x=>rfl
 |(n,k)::r,x=>by
  by_cases q:x=n
  ·subst q;simp only[Qo,lookup_cons_self,Wc]
  ·simp only[Qo,bU q];exact g6
theorem mu{env c:Js}{scope:Jk}(h:env.scope.kind= .function):
  Env.kindOf {c with scope:=relabel scope env} x=(scope.names.lookup x).map λk=>if k= .free/\env.kindOf x=Ja .cell then .cell else k:=by
 show(relabel scope env).names.lookup x=_;have:(relabel scope env).names=scope.names.map λp=>(p.1,if(p.2== .free&&env.scope.kind== .function&&env.kindOf p.1==Ja .cell)=Jc then .cell else p.2):=by
  unfold relabel;refine Qm λp o0=> ?_;obtain⟨n,k⟩:=p;dsimp only
  split<;>rfl
 rw[this,g6]
 congr 1
 funext k;simp only[h,beq_self_eq_true,Bool.and_true,QV,beq_iff_eq]
theorem lA{sc c:Jk}(h:eW sc c=Jc):c.kind= .function/\(∀n,(n,NameKind.free)∈c.names->sc.names.lookup n=Ja .cell\/sc.names.lookup n=Ja .free)/\(∀n k,(n,k)∈c.names->c.names.lookup n=Ja k):=by
 simp only[eW,QV,beq_iff_eq,Qv,Uc] at h;obtain⟨⟨⟨⟨⟨N,o0⟩,o0⟩,p⟩,J⟩,o0⟩:=h;refine⟨N,λn o=> ?_,λn k o=>J (n,k) o⟩;have:=p (n,.free) o
 simpa [Yv] using this
structure ScR(sc:Jk)(env:Js):Prop where
 loc:∀y,sc.names.lookup y=Ja .local->env.kindOf y=Ja .local
 cell:∀y,sc.names.lookup y=Ja .cell->env.kindOf y=Ja .cell
 free:∀y,sc.names.lookup y=Ja .free->env.kindOf y=Ja .cell\/env.kindOf y=Ja .free
 glob:∀y,sc.names.lookup y=Ja .globalImplicit->env.kindOf y=Ja .globalImplicit
theorem ScR.self(env:Js):ScR env.scope env:=⟨λo0 h=>h,λo0 h=>h,λo0 h=> .inr h,λo0 h=>h⟩
theorem vh{env:Js}{scope:Jk}{j:List (Jq×Jg)}(W:EnvR C env L σ s.heap)(m:Sim C σ s.heap)(V:ScR sc env)(ok:eW sc scope=Jc)(U:ownOk tg scope=Jc)
  (K:∀x c,j.lookup x=Ja c->env.cells.lookup x=Ja c)(g:∀x,(x,NameKind.free)∈scope.names->∃c,j.lookup x=Ja c)
  {i:Js}(Z:i={compE scope j s.heap.objs.size env with scope:=relabel scope env}){S:Ji}(u:S=Y3 (s.heap.push {cls:= .type "dict",data:= .dict #[]}) scope.names):
  EnvR C i (blank tg L) σ S/\(∀b o,s.heap.get? b=Ja o->S.get? b=Ja o)/\i.locals=s.heap.objs.size/\
  (∀x,scope.names.lookup x=Ja .local->i.kindOf x=Ja .local)/\(∀x,scope.names.lookup x=Ja .cell->i.kindOf x=Ja .cell/\∀c,i.cells.lookup x=Ja c->s.heap.objs.size<=c)/\
  (∀x k,scope.names.lookup x=Ja k->k≠ .free->i.kindOf x=Ja k)/\(∀x,scope.names.lookup x=Ja .free->i.kindOf x=Ja .cell\/i.kindOf x=Ja .free)/\(∀x c,i.cells.lookup x=Ja c->s.heap.objs.size<=c\/env.cells.lookup x=Ja c):=by
 obtain⟨k1,X,G⟩:=lA ok;have X:∀n,(n,NameKind.free)∈scope.names->env.kindOf n=Ja .cell\/env.kindOf n=Ja .free:=λn I=>(X n I).elim (λq=> .inl (V.cell n q)) (V.free n);have z:∀x,i.kindOf x=(scope.names.lookup x).map λk=>if k= .free/\env.kindOf x=Ja .cell then .cell else k:=λx=>by rw[Z];exact mu W.fn
 have kp:∀b o,s.heap.get? b=Ja o->S.get? b=Ja o:=λb o e=>by rw[u];exact pushCells_keeps _ _ b o<|Qz _ e
 have r:i.locals=s.heap.objs.size:=by rw[Z];rfl
 have J:i.cells=JO (s.heap.objs.size+1) scope.names j:=by rw[Z];rfl
 have R:CellsR S (s.heap.objs.size+1) i.cells j:=by
  have:=p8 scope.names (s.heap.push {cls:= .type "dict",data:= .dict #[]}) (s.heap.objs.size+1) j j ⟨λn c h=> .inr h,λn n' c Z N Y=>by
   obtain⟨o0,v,o,q,o0⟩:=W.newC n c (K n c N);exact absurd (QO q) (Kc.mpr (Kh Z))⟩ (λn c h=>by
    obtain⟨o0,v,o,q,o0⟩:=W.newC n c (K n c h);rw[KN];exact Wy (QO q)) (by rw[KN];exact Qy _)
  rw[KN] at this;rw[J,u];exact this
 have old:∀x c,i.cells.lookup x=Ja c->c<s.heap.objs.size+1->env.cells.lookup x=Ja c:=λx c h q=>by
  rcases R.new x c h with⟨a,o0⟩|a
  ·exact absurd q<|Kc.mpr a
  ·exact K x c a
 have P:∀x,scope.names.lookup x=Ja .cell->∃c,s.heap.objs.size+1<=c/\i.cells.lookup x=Ja c:=λx h=>by
  rw[J];exact fx _ _ _ _<|mem_of_lookup h
 have B:∀x,scope.names.lookup x=Ja .free->i.cells.lookup x=j.lookup x:=λx h=>by
  rw[J];refine f6 _ _ _ _ λq=> ?_;have:=G x .cell q;rw[h] at this;cases this
 have H:Step none1 σ s.heap σ S:= .more kp;refine⟨⟨?_,?_,?_,?_,?_,?_,?_,?_,?_,?_,?_⟩,kp,r,?_,?_,?_,?_,?_⟩
 ·rw[Z];exact k1
 ·rw[Z];exact W.glob
 ·rw[Z];exact W.blt
 ·refine⟨λo0=>Jb,?_,λx p T F=> ?_⟩
  ·rw[r,u];exact(Heap.Ns.new s.heap<|.type "dict").keeps (pushCells_keeps _ _)
  ·obtain⟨t,O,o0⟩:=jD T;rw[z] at F;exfalso
   induction e:scope.names.lookup (Qb x) with
   |none=>rw[e] at F;exact ns F
   |some k=>
    rw[e] at F;simp only[Wc,Option.some.injEq] at F
    split at F
    ·cases F
    ·subst F;simp only[ownOk,Qv] at U;have:=U _<|mem_of_lookup e;simp[Vl.Internal.nm] at this
     rcases this with this|⟨y,Q,this⟩
     ·exact t<|ofString_inj this
     ·exact O<|ofString_inj this▸Q
 ·intro x p T F;obtain⟨t,O,T⟩:=jD T;have f:scope.names.lookup (Qb x)=Ja .free:=by
   rw[z] at F
   induction e:scope.names.lookup (Qb x) with
   |none=>rw[e] at F;rcases F with F|F<;>exact ns F
   |some k=>
    rw[e] at F;simp only[Wc,Option.some.injEq] at F;by_cases M:k= .free
    ·rw[M]
    ·rw[Y9 (λq=>M q.1)] at F
     rcases F with F|F
     ·subst F;simp only[ownOk,Qv] at U;have:=U _<|mem_of_lookup e;simp[Vl.Internal.nm] at this
      rcases this with this|⟨y,Q,this⟩
      ·exact absurd (ofString_inj this) t
      ·exact absurd (ofString_inj this▸Q) O
     ·exact absurd F M
  obtain⟨c,l⟩:=g _<|mem_of_lookup f;have:=X _<|mem_of_lookup f;obtain⟨D,v,a,b,d⟩:=W.cell x p T this;have:D=c:=by have:=K _ _ l;obtain rfl:=sj<|a.symm.trans this;rfl
  subst this;exact⟨D,v,(B _ f).trans l,b.keeps kp,d.step H⟩
 ·rw[r];exact m.fresh<|Qy _
 ·rw[r];exact m.freshB<|Qy _
 ·intro x c h;by_cases q:c<s.heap.objs.size+1
  ·exact W.baseC x c<|old x c h q
  ·exact m.freshB<|Kh (Kc.mp q)
 ·intro x c h
  rcases R.new x c h with⟨a,b⟩|a
  ·exact⟨m.fresh<|Kh a,_,b⟩
  ·obtain⟨q,v,b⟩:=W.newC x c<|K x c a;exact⟨q,v,b.keeps kp⟩
 ·intro x y c N Y;by_cases q:c<s.heap.objs.size+1
  ·exact W.apart x y c (old x c N q)<|old y c Y q
  ·exact R.apart x y c (Kc.mp q) N Y
 ·intro x h;rw[z] at h
  induction e:scope.names.lookup x with
  |none=>rw[e] at h;rcases h with h|h<;>exact ns h
  |some k=>
   by_cases M:k= .free
   ·subst M;obtain⟨c,l⟩:=g _<|mem_of_lookup e;exact⟨c,(B _ e).trans l⟩
   ·rw[e] at h;simp only[Wc,Option.some.injEq] at h;rw[Y9 (λq=>M q.1)] at h
    rcases h with h|h
    ·subst h;obtain⟨c,o0,q⟩:=P _ e;exact⟨c,q⟩
    ·exact absurd h M
 ·intro x h;rw[z,h];rfl
 ·intro x h;refine⟨by rw[z,h];rfl,λc hx=> ?_⟩;obtain⟨D,q1,q2⟩:=P x h;obtain rfl:=sj<|hx.symm.trans q2;exact Kh q1
 ·intro x k h M;rw[z,h,Wc,Y9 (λq=>M q.1)]
 ·intro x h;rw[z,h,Wc];by_cases q:env.kindOf x=Ja .cell
  ·rw[Ua ⟨rfl,q⟩];exact .inl rfl
  ·rw[Y9 (λw=>q w.2)];exact .inr rfl
 ·intro x c h
  rcases R.new x c h with⟨a,o0⟩|a
  ·exact .inl<|Kh a
  ·exact .inr<|K x c a
end
section
variable{C:Cx}{A:Jj}{R:Result->Je->Prop}{s:Je}
noncomputable abbrev tests(ifs:List Jl)(env:Js):Sem Bool:=forIn ifs Jc λc r=>if r=Jc then do let ok<-Y4 c env (Jw c env);pure (ForInStep.yield ok) else pure (ForInStep.yield r)
theorem ng{Er:Jf->Je->Prop}(hEr:Er=notedBy (Mo C) A env λe s'=>R (.error e) s')(I:Nat->Je->Prop)
  (turn:∀n s,I n s->Jh (Mo C) A (pyNext it) (λr s₁=>match r with
   |none=>R (.ok .next) s₁
   |some v=>Jh (Mo C) A (letOwnedTupleGo target it v) (λo0 s₁'=>Jh (Mo C) A (assign target env v) (λo0 s₂=>
     Jh (Mo C) A (tests ifs env) (λok s₃=>
      if ok=Jc then Jh (Mo C) A (Jw elt env) (λx s₄=>
       Jh (Mo C) A (call (.builtin "list.append") [acc,x]) (λo0 s₅=>∃m,m<n/\I m s₅) Er s₄) Er s₃
      else∃m,m<n/\I m s₃) Er s₂) Er s₁') Er s₁) Er s)
  (n:Nat)(h:I n s):
  codeAny (Mo C) A (.compLoop (.ListComp elt [⟨target,iter,ifs,0⟩] scope pos) 0 it acc env) R s:=by
 subst hEr;refine codeAny_loop rfl I (λn s hI=> ?_) n h;show Jh _ A ((compTurn (.ListComp elt [⟨target,iter,ifs,0⟩] scope pos) 0 it acc env).onRaise (λx=>do noteFrame x env;theTreesLotGoes x)) _ _ s;refine wpAny_noted ?_;rw[compTurn_list];refine YG<|YK (YG<|YI (turn n s hI) (λr s₁ h₁=> ?_) λo0 o0 h'=>h')
 induction r with
 |none=>exact YH h₁
 |some v=>
  refine YG (YI h₁ (λo0 s₁' h₁'=> ?_) λo0 o0 h'=>h');refine YG<|YI h₁' (λo0 s₂ h₂=>YG<|YI h₂ (λok s₃ h₃=> ?_) λo0 o0 h'=>h') λo0 o0 h'=>h'
  induction ok with
  |false=>exact YH ⟨rfl,h₃⟩
  |true=>
   exact YG<|YG (YI h₃ (λx s₄ h₄=>YG<|YI h₄ (λo0 s₅ h₅=>YH<|YH ⟨rfl,h₅⟩) λo0 o0 h'=>h') λo0 o0 h'=>h')
theorem lO{h S:Ji}{D:Jg}(st:Step none1 σ h σ' S)(g:h.get? D=Ja (lstO v n))(E:σ D=Jb):S.get? D=Ja (lstO v n)/\σ' D=Jb:=by
 obtain⟨a,o,b,c⟩:=st.keep D _ g E;rw[(c λf=>f.elim).eq (by simp)] at b;exact⟨b,a⟩
theorem uq(h:i<n):n-(i+1)+1<n-i+1:=Yn<|Nat.sub_succ_lt_self n i h
structure CompAt(C:Cx)(St:Nat->PH->Ji->Prop)(cenv:Js)(ρb:Rho)(go:List PV->List PV->PH->Prop)(xs:List PV)(σ:PH)(s₀:Je)(D:Jg)(i:Nat)(acc:List PV)(σ':PH)(av:Array Jf)(nn:Nat)(s':Je):Prop where
 le:i<=xs.length
 ai:acc.length<=i
 st:St i σ' s'.heap
 m:Sim C σ' s'.heap
 ev:EnvR C cenv ρb σ' s'.heap
 step:Step none1 σ s₀.heap σ' s'.heap
 rest:Rest s₀ s'
 hD:s'.heap.get? D=Ja (lstO av nn)
 nD:σ' D=Jb
 hacc:VRs C σ' s'.heap acc av.toList
 go:go (xs.drop i) acc σ'
theorem sx{I D:Jg}{St:Nat->PH->Ji->Prop}{xs:List PV}{chk:PH->Prop}{H:Js}{tg:Tg}
  {tst:Rho->PH->(Bool->PH->Prop)->Prop}{el:Rho->PH->Post->Prop}{K:List PV->PH->Prop}{s₀:Je}
  (S:Src C A t I fp xs chk St)(ht:mTg sc tg t=Jc)(own:∀x∈tg.names,H.kindOf (Qb x)=Ja .local\/H.kindOf (Qb x)=Ja .cell)
  (an:∀c,slot H tg.names c->s₀.heap.get? c=Jb)(az:∀b∈fp,s₀.heap.get? b=Jb)(DF:s₀.heap.get? D=Jb)(DB:C.B.get? D=Jb)
  (aa:H.locals∉fp)(al:∀x c,H.cells.lookup x=Ja c->c∉fp)(ah:D∉fp)(ak:AOK C n A l σ s₀.heap)(T:xs.length<=lim)
  (a6:∀ρ' σ' s' Kb,EnvR C H ρ' σ' s'.heap->Sim C σ' s'.heap->AOK C n A l σ' s'.heap->tst ρ' σ' Kb->∀ao,Jh (Mo C) A (tests au H) (λok ac=>∃F,A4 (Sim C F ac.heap) (Step none1 σ' s'.heap F ac.heap) (Rest s' ac)<|Kb ok F) ao s')
  (a8:∀ρ' σ' s' Q,EnvR C H ρ' σ' s'.heap->Sim C σ' s'.heap->AOK C n A l σ' s'.heap->el ρ' σ' Q->∀ao,Jh (Mo C) A (Jw ar H) (VP C none1 σ' s' Q) ao s')
  (hR:∀a X z d L,Sim C X z.heap->Step none1 σ s₀.heap X z.heap->Rest s₀ z->z.heap.get? D=Ja (lstO d L)->VRs C X z.heap a d.toList->X D=Jb->(∃m,z.heap.Ns H.locals m)->X H.locals=Jb->K a X->R (.ok .next) z)(O:St 0 σ1 s.heap)(m:Sim C σ1 s.heap)(ev:EnvR C H (blank tg ρ) σ1 s.heap)(st:Step none1 σ s₀.heap σ1 s.heap)(r:Rest s₀ s)(hD:s.heap.get? D=Ja (lstO #[] 0))(Y:σ1 D=Jb)
  (h:gb chk tg ρ tst el xs [] σ1 K):
  codeAny (Mo C) A (.compLoop (.ListComp ar [⟨t,iter,au,0⟩] scope pos) 0 (.ref I) (.ref D) H) R s:=by
 refine ng rfl (λk s'=>X5 λi a σ' d L=>k=xs.length-i+1/\CompAt C St H (blank tg ρ) (λxs a σ=>gb chk tg ρ tst el xs a σ K) xs σ s₀ D i a σ' d L s') ?_ _
  ⟨0,[],σ1,#[],0,rfl,⟨QT _,QT _,O,m,ev,st,r,hD,Y,rfl,h⟩⟩
 clear O m ev st r hD Y h;intro k s' hI;obtain⟨i,a,σ',d,L,rfl,I⟩:=hI;have h:=I.go;have ae:=I.ai;have O:=I.st;have m:=I.m;have ev:=I.ev;have st:=I.step;have r:=I.rest;have hD:=I.hD;have Y:=I.nD;have j:=I.hacc;have hi:=I.le;clear I;by_cases N:i<xs.length
 ·have hx:xs[i]? =Ja xs[i]:=Qi N;rw[WQ N] at h;obtain⟨ax,h⟩:=h;obtain⟨ρ',hb,h⟩:=pU h;refine S.item hx m ax O λv s1 ay=> ?_;refine ay _ _ λz hv m2 G a4 r2=> ?_;have fo:=S.fok O
  ·have a9:=ev.mv G fo aa al;have aw:=G D _ ah hD;have af:=j.mv G fo;have ba:=st.mv G az;refine iB (λo0=>S.hdn) ht a9 m2 own hv hb λs3 B as r3=> ?_;have a2:¬slot H tg.names D:=λq=>by
    obtain⟨o0,o0⟩:=B.has D q;exact absurd ⟨d,L,rfl⟩<|(B.has D q).1 _ aw
   have a0:∀b∈fp,¬slot H tg.names b:=λb hb=>by
    rintro ⟨x,o0,q|q⟩
    ·exact aa<|q.2▸hb
    ·exact al _ _ q.2 hb
   have bg:=B.mv D _ a2 aw;have ad:=af.mv B.mv B.fok;have a7:=ba.mv B.mv an;have a5:=S.mv a4 B.mv B.fok a0;have weak:∀ {u h4},EnvR C H ρ' u h4->EnvR C H (blank tg ρ) u h4:=λx=>x.weak λy q e=>sy hb e;refine YI (a6 ρ' σ' s3 _ as B.sim (ak.step a7) h _) (λok s4 h4=> ?_) λo0 o0 x=>x;obtain⟨u,m4,V,r4,h⟩:=h4;have E:=S.step a5 V (λo0 o0 f=>f);obtain⟨a1,U⟩:=lO V bg Y;have am:=as.step V;have M:=ad.step V;have aj:=a7.trans V
   induction ok with
   |false=>
    exact⟨xs.length-(i+1)+1,uq N,i+1,a,u,d,L,rfl,⟨N,WA ae,E,m4,weak am,aj,((r.trans r2).trans r3).trans r4,a1,U,M,h⟩⟩
   |true=>
    refine YI (a8 ρ' u s4 _ am m4 (ak.step aj) h _) (λy s5 h5=> ?_) λo0 o0 x=>x;obtain⟨p,P,be,m5,J,r5,h⟩:=h5;have aq:=S.step E J (λo0 o0 f=>f);obtain⟨w,W⟩:=lO J a1 U;have ap:=am.step J;have ab:=M.step J;have bh:=aj.trans J;have bc:d.size=a.length:=by simpa using j.length
    refine wpAny_list_append_plain ⟨L,w⟩ (λh6 ai bb=> ?_) (by rw[bc];simp only[lim] at T;exact Qn (Qn ae<|Kv N)<|Qn T (by decide));obtain⟨n6,ai⟩:=ai;have g:Mv (· =D) s5.heap h6:=λc o f e=>bb.extBut c o f e;have Z:Fok C P s5.heap (· =D):=λc f=>by
     have f:c=D:=f;subst f;exact⟨DB,W,hJ w<|by simp⟩
    have m6:Sim C P h6:=m5.mv g Z;have bf:EnvR C H ρ' P h6:=ap.mv g Z (λq=>by
      obtain⟨o0,⟨o,es,ep,e,hd,o0⟩,o0⟩:=ap.ns;have q:H.locals=D:=q;rw[q,w] at e;obtain rfl:=sj e;cases hd) λy c hc q=>by
       have q:c=D:=q;subst q;obtain⟨o0,v1,o1,q1,q2⟩:=ap.newC y _ hc;obtain rfl:=sj<|w.symm.trans q1;cases q2
    refine⟨xs.length-(i+1)+1,uq N,i+1,a++[p],P,d.push y,n6,rfl,⟨N,by rw[QG];exact Kw ae,S.mv aq g Z (λb hb q=>ah (by rw[<-(q:b=D)];exact hb)),m6,weak bf,
     bh.mv g (λc f=>by have f:c=D:=f;subst f;exact DF),(((r.trans r2).trans r3).trans r4).trans r5,ai,W,?_,h⟩⟩
    rw[Array.toList_push];exact(ab.append<|by exact⟨y,[],rfl,be,rfl⟩).mv g Z
 ·have bd:i=xs.length:=Yw hi<|Kc.mp N;subst bd;rw[List.drop_length] at h;refine S.done m h.1 O λz m2 G r2=> ?_;have fo:=S.fok O;refine hR a σ' z d L m2 (st.mv G az) (r.trans r2) (G D _ ah hD) (j.mv G fo) Y ?_ ev.newL h.2;obtain⟨mm,hn,o0⟩:=(ev.mv G fo aa al).ns;exact⟨mm,hn⟩
end
def jv(C:Cx)(A:Jj)(env:Js)(t iter:Jl)(σ:PH)(s:Je)(K:List PV->(PH->Prop)->PH->Prop)(Er:Jf->Je->Prop):Prop:=
 ∀R:Jf->Je->Prop,(∀I f S m W P c,Src C A t I f P c S->S 0 m W.heap->Sim C m W.heap->Step none1 σ s.heap m W.heap->Rest s W->
  (∀b∈f,s.heap.get? b=Jb/\b<W.heap.objs.size)->P.length<=lim->K P c m->R (.ref I) W)->
  Jh (Mo C) A (Jw iter env) (λx k=>Jh (Mo C) A (YQ x) R Er k) Er s
section
variable{C:Cx}{σ:PH}{h:Ji}{D:Jg}{po:PO}
mutual
theorem VR.adopt(nt:∀vs n,h.get? D≠Ja (tupO vs n)):∀ (p:PV) (v:Jf),VR C σ h p v->VR C (σ.set D po) h p v
 | .none=>λo0 e=>e
 | .bool _=>λo0 e=>e
 | .int _=>λo0 e=>e
 | .str _=>λo0 e=>e
 | .ref _=>λo0 e=>e
 | .scr _=>λo0 e=>e
 | .tup l=>λv e=>by
  obtain⟨a,n,vs,T,es,e2,V⟩:=e;refine⟨a,n,vs,T,?_,e2,VRs.adopt nt l _ V⟩;rw[PH.set_ne]
  ·exact es
  ·rintro rfl;exact nt vs n e2
theorem VRs.adopt(nt:∀vs n,h.get? D≠Ja (tupO vs n)):∀ (l:List PV) (vs:List Jf),VRs C σ h l vs->VRs C (σ.set D po) h l vs
 |[]=>λo0 e=>e
 |p::ps=>λvs e=>by
  obtain⟨v,r,T,e2,X⟩:=e;exact⟨v,r,T,VR.adopt nt p v e2,VRs.adopt nt ps r X⟩
end
theorem OR.adopt(E:σ D=Jb)(nt:∀vs n,h.get? D≠Ja (tupO vs n)):∀ (p:PO) (o:Jp),OR C σ h p o->OR C (σ.set D po) h p o:=λp o r=>by
 have a:∀ {x:Jg} {q:PO},σ x=Ja q->(σ.set D po) x=Ja q:=λw=>(PH.set_ne _ _ λz=>ns<|E.symm.trans (z▸w)).trans w
 induction p with
 |list l=>obtain⟨vs,n,F,X⟩:=r;exact⟨vs,n,F,VRs.adopt nt _ _ X⟩
 |dict=>
  obtain⟨U,H,P,x,d,e,k,nd,L,v⟩:=r;refine⟨U,H,P,x,d,e,k,nd,λy W=> ?_,VRs.adopt nt _ _ v⟩;obtain⟨n,vs,m,g,i⟩:=L y W;exact⟨(PH.set_ne _ _ λz=>by rw[z] at g;exact nt vs m g).trans n,vs,m,g,i⟩
 |fd=>obtain⟨U,H,e,k,v,z⟩:=r;exact⟨U,H,e,k,λi f p N Y=>(v i f p N Y).imp λu q=>⟨q.1,VR.adopt nt _ _ q.2⟩,z⟩
 |inst d=>obtain⟨c,k,T,F,X,I,V⟩:=r;exact⟨c,k,T,F,X,I,V.imp λR w=>a w⟩
theorem Sim.adopt(m:Sim C σ h)(E:σ D=Jb)(nt:∀vs n,h.get? D≠Ja (tupO vs n))(e:h.get? D=Ja W)(b:C.B.get? D=Jb)(r:OR C σ h po W)(T:po.needs C.ok D:=by trivial):Sim C (σ.set D po) h where
 rich:=λx o g=>by
  by_cases q:x=D
  ·subst q;rw[PH.set_same] at g;obtain rfl:=sj g;exact T
  ·rw[PH.set_ne _ _ q] at g;exact m.rich x o g
 base:=m.base
 new:=λx o g=>by
  by_cases q:x=D
  ·subst q;exact b
  ·rw[PH.set_ne _ _ q] at g;exact m.new x o g
 objs:=λx o g=>by
  by_cases q:x=D
  ·subst q;rw[PH.set_same] at g;obtain rfl:=sj g;exact⟨W,e,r.adopt E nt⟩
  ·rw[PH.set_ne _ _ q] at g;obtain⟨P,N,p⟩:=m.objs x o g;exact⟨P,N,p.adopt E nt⟩
end
theorem mi{sc:Jk}(h:isOwn sc y=Jc):sc.names.lookup y=Ja .local\/sc.names.lookup y=Ja .cell:=by
 simpa [isOwn,Yv] using h
theorem kT{sc:Jk}:∀ {xs:List String} {es:List Jl},eE sc xs es=Jc->∀x∈xs,sc.names.lookup (Qb x)=Ja .local\/sc.names.lookup (Qb x)=Ja .cell
 |[],[]=>λo0 x hx=>by cases hx
 |[],_::_=>λhm o0 o0=>by exact ft hm
 |x::xs,[]=>λhm o0 o0=>by exact ft hm
 |x::xs,e::es=>λhm y hy=>by
  induction e using Expr.casesOn with
  |Name z pos=>
   obtain⟨rfl,h1,h2⟩:=pK hm
   rcases Qw.mp hy with rfl|hy
   ·exact mi h1
   ·exact kT h2 y hy
  |_=>first|exact bnx hm|exact onx hm|cases hm
theorem qS{sc:Jk}{tg:Tg}(h:mTg sc tg t=Jc):∀x∈tg.names,sc.names.lookup (Qb x)=Ja .local\/sc.names.lookup (Qb x)=Ja .cell:=by
 induction tg with
 |name x=>
  induction t using Expr.casesOn with
  |Name y pos=>
   obtain⟨rfl,h1⟩:=uc h;intro z hz;simp only[Tg.names,Qj] at hz;subst hz;exact mi h1
  |_=>first|exact bnx h|exact onx h|cases h
 |tup xs=>
  induction t using Expr.casesOn with
  |Tuple es a b=>exact kT (show eE sc xs es=Jc from h)
  |_=>first|exact bnx h|exact onx h|cases h
section
variable{C:Cx}{A:Jj}{s:Je}
theorem qy{E:List Jl}
  {tst:Rho->PH->(Bool->PH->Prop)->Prop}{el:Rho->PH->Post->Prop}{use:Option (Jf->Sem Unit)}{Q' Er:Jf->Je->Prop}
  (ev:EnvR C env ρ σ s.heap)(ak:AOK C n A l σ s.heap)(sr:ScR sc env)(ok:eW sc scope=Jc)(ow:ownOk tg scope=Jc)(ht:mTg scope tg t=Jc)
  (hs:∀x,JQ iter env x=pure x)
  (an:jv C A env t iter σ s (λxs chk σ1=>gb chk tg ρ tst el xs [] σ1 λa U=>wnew (.list a) U Q) Er)
  (aj:∀H,ScR scope H->∀ρ' σ' s' Kb,EnvR C H ρ' σ' s'.heap->Sim C σ' s'.heap->AOK C n A l σ' s'.heap->tst ρ' σ' Kb->∀d,Jh (Mo C) A (tests E H) (λok N=>∃j,A4 (Sim C j N.heap) (Step none1 σ' s'.heap j N.heap) (Rest s' N)<|Kb ok j) d s')
  (al:∀H,ScR scope H->∀ρ' σ' s' Q,EnvR C H ρ' σ' s'.heap->Sim C σ' s'.heap->AOK C n A l σ' s'.heap->el ρ' σ' Q->∀d,Jh (Mo C) A (Jw ac H) (VP C none1 σ' s' Q) d s')
  (u:∀D σ3 s3 L,Sim C σ3 s3.heap->Step none1 σ s.heap σ3 s3.heap->Rest s s3->s.heap.get? L=Jb->σ3 L=Jb->C.B.get? L=Jb->(∃m,s3.heap.Ns L m)->Q (.ref D) σ3->compPost (Mo C) A Er use Q' (.ref D) L (.ok .next) s3):
  Jh (Mo C) A (comprehension (.ListComp ac [⟨t,iter,E,0⟩] scope pos) scope env aa (newList []) Jd (Jw iter env) use) Q' Er s:=by
 obtain⟨k1,k2,k3⟩:=lA ok;have aq:∀n,(n,NameKind.free)∈scope.names->env.kindOf n=Ja .cell\/env.kindOf n=Ja .free:=λn hn=>(k2 n hn).elim (λq=> .inl (sr.cell n q)) (sr.free n);obtain⟨cl,c0,c1,c2⟩:=lI (env:=env) (scope:=scope) λn hn=>ev.hasC n<|aq n hn;refine wpAny_comprehension_free (g:=⟨t,iter,E,0⟩) (gs:=[]) rfl hs c0 k1 (λx hx hl=>by have:=k3 x.1 x.2 hx;rw[hl] at this;exact this) ?_;refine an _ λI fp St σ1 W xs chk S ar M P r1 G ae ao=> ?_;refine JB ?_;refine pk ?_;generalize af:({W with heap:=W.heap.push {cls:= .type "list",dict:=Jb,data:= .seq ([]:List Jf).toArray}}:Je)=s2;have F:s2.heap=W.heap.push (lstO #[] 0):=by rw[<-af]
 have r:Rest W s2:=by rw[<-af];exact⟨rfl,rfl⟩
 have k:∀b o,W.heap.get? b=Ja o->s2.heap.get? b=Ja o:=λb o e=>by rw[F];exact Qz _ e
 have m2:Sim C σ1 s2.heap:=M.more k;have J:Step none1 σ s.heap σ1 s2.heap:=P.trans<|.more k;have z:s2.heap.objs.size=W.heap.objs.size+1:=by rw[F,KN]
 obtain⟨K,p,T,q1,q2,q3,q4,q5⟩:=vh (s:=s2) (tg:=tg) (ev.step J) m2 sr ok ow c1 c2 rfl rfl;generalize aw:({compE scope cl s2.heap.objs.size env with scope:=relabel scope env}:Js)=H at K T q1 q2 q3 q4 q5 ⊢;generalize ax:Y3 (s2.heap.push {cls:= .type "dict",data:= .dict #[]}) scope.names=h3 at K p ⊢;have ad:ScR scope H:=⟨q1,λy h=>(q2 y h).1,q4,λy h=>q3 y _ h<|by simp⟩
 have au:Step none1 σ s.heap σ1 h3:=J.trans<|.more p;have m3:Sim C σ1 h3:=m2.more p;have O:St 0 σ1 h3:=S.step (S:=none1) ar (.more λb o e=>p b o<|k b o e) (λo0 o0 f=>f);have e1:W.heap.get? W.heap.objs.size=Jb:=iD _<|Qy _;have e2:∀c,s2.heap.objs.size<=c->s.heap.get? c=Jb:=λc hc=>J.old m2<|iD _ hc;have ab:s2.heap.get? W.heap.objs.size=Ja (lstO #[] 0):=by rw[F];exact QK _ rfl
 have own:∀x∈tg.names,scope.names.lookup (Qb x)=Ja .local\/scope.names.lookup (Qb x)=Ja .cell:=qS ht;have V:=λ(s':Je) (B:s'={s2 with heap:=h3})=>sx (s:=s') (scope:=scope) (iter:=iter) (pos:=pos) (R:=compPost (Mo C) A Er use Q' (.ref W.heap.objs.size) H.locals) (s₀:=s) S ht
  (λx hx=>(own x hx).imp (q1 _) λh=>(q2 _ h).1)
  (λc hc=>by
   obtain⟨x,hx,w|w⟩:=hc
   ·rw[w.2,T];exact e2 _<|Qy _
   ·rcases own x hx with h|h
    ·rw[q1 _ h] at w;cases w.1
    ·exact e2 _ ((q2 _ h).2 c w.2))
  (λb hb=>(G b hb).1) (P.old M e1) (M.freshB<|Qy _)
  (λX=>by rw[T] at X;exact absurd (G _ X).2 (Kc.mpr<|by rw[z];exact Wf _))
  (λx c hc X=>by
   rcases q5 x c hc with w|w
   ·exact absurd (G c X).2 (Kc.mpr<|Qn (by rw[z];exact Wf _) w)
   ·obtain⟨o0,v,o,e,o0⟩:=ev.newC x c w;exact ns (((G c X).1).symm.trans e))
  (λX=>absurd (G _ X).2 (KJ _)) ak ae (aj H ad) (al H ad)
  (λa U s4 av nn m4 as r4 ah Z Y z' ai hq=>by
   obtain⟨mm,hn⟩:=z';have ap:H.locals≠W.heap.objs.size:=by rw[T,z];exact Nat.succ_ne_self _
   have nt:=hJ ah (by simp);refine u W.heap.objs.size (U.set W.heap.objs.size<|.list a) s4 H.locals ?_ (as.add _ (P.old M e1) ?_) r4 (by rw[T];exact e2 _<|Qy _) (by rw[PH.set_ne _ _ ap];exact ai) (by rw[T];exact m2.freshB<|Qy _) ⟨mm,hn⟩<|hq _ Y
   ·exact m4.adopt Y nt ah (M.freshB<|Qy _) ⟨av,nn,rfl,Z⟩
   ·induction w:σ W.heap.objs.size with
    |none=>rfl
    |some o=>obtain⟨o',w'⟩:=P.grow _ o w;exact ns ((M.fresh (Qy _)).symm.trans w'))
  (σ1:=σ1) (by rw[B];exact O) (by rw[B];exact m3) (by rw[B];exact K) (by rw[B];exact au) (by rw[B];exact r1.trans r) (by rw[B];exact p _ _ ab) (M.fresh<|Qy _) ao
 have am:(compE scope cl s2.heap.objs.size env).locals=H.locals:=by rw[T];rfl
 rw[am];exact codeAny_compStart_list (V _ rfl)<|S.self (σ:=σ1) (i:=0) O (V _ rfl)
theorem nO
  {tst:Rho->PH->(Bool->PH->Prop)->Prop}{el:Rho->PH->Post->Prop}
  (M:EnvR C env T σ s.heap)(R:AOK C n A l σ s.heap)(k:ScR sc env)(ok:eW sc scope=Jc)(Z:ownOk tg scope=Jc)(I:mTg scope tg t=Jc)
  (H:∀x,JQ iter env x=pure x)
  (w:jv C A env t iter σ s (λxs chk σ1=>gb chk tg T tst el xs [] σ1 λa O=>wnew (.list a) O Q) (XP C none1 σ s X))
  (P:∀v,ScR scope v->∀ρ' σ' s' K,EnvR C v ρ' σ' s'.heap->Sim C σ' s'.heap->AOK C n A l σ' s'.heap->tst ρ' σ' K->∀E,Jh (Mo C) A (tests i v) (λok W=>∃j,A4 (Sim C j W.heap) (Step none1 σ' s'.heap j W.heap) (Rest s' W)<|K ok j) E s')
  (q:∀v,ScR scope v->∀ρ' σ' s' Q,EnvR C v ρ' σ' s'.heap->Sim C σ' s'.heap->AOK C n A l σ' s'.heap->el ρ' σ' Q->∀E,Jh (Mo C) A (Jw g v) (VP C none1 σ' s' Q) E s'):
  EOK C A σ s (Jw (.ListComp g [⟨t,iter,i,0⟩] scope pos) env) Q X:=by
 show Jh _ _ _ _ _ _;rw[eval_ListComp];refine qy (use:=Jb) M R k ok Z I H w P q λD p u L Y y r N F J z U=> ?_;obtain⟨m,b⟩:=z;refine⟨m,b,λS B=> ?_⟩;have mv:Mv (· =L) u.heap S:=λc o f e=>B.extBut c o f e;obtain⟨o,es,ep,d,G,o0⟩:=b;have V:Fok C p u.heap (· =L):=λc f=>by
  have f:c=L:=f;subst f;exact⟨J,F,iF d<|d7 G⟩
 refine⟨.ref D,p,rfl,Y.mv mv V,y.mv mv (λc f=>by have f:c=L:=f;subst f;exact N),r,U⟩
end
noncomputable def t6(x:Jl):Nat->Prop
 |0=>X3 λc k p=>x= .Constant c k p
 |1=>∃y p,x= .Name y p
 |2=>X4 λl o r p=>x= .BinOp l o r p
 |3=>X3 λo y p=>x= .UnaryOp o y p
 |4=>X3 λo w p=>x= .BoolOp o w p
 |5=>X4 λl Q F p=>x= .Compare l Q F p
 |7=>X3 λs k p=>x= .Tuple s k p
 |8=>∃s p,x= .List s p
 |10=>X3 λu v p=>x= .Subscript u v p
 |11=>X4 λe g sc p=>x= .ListComp e g sc p
 |12=>X4 λf a b p=>x= .Call f a b p
 |13=>X3 λy z p=>x= .Attribute y z p
 |14=>X4 λV h t p=>x= .Slice V h t p
 |15=>X3 λi w p=>x= .Dict i w p
 |_=>True
theorem xinv(x:Jl):t6 x (xk x):=by
 induction x using Expr.casesOn with
 |Constant c k p=>exact(⟨c,k,p,rfl⟩:X3 λc' k' p'=>Expr.Constant c k p= .Constant c' k' p')
 |Name y p=>exact(⟨y,p,rfl⟩:∃y' p',Expr.Name y p= .Name y' p')
 |BinOp l o r p=>exact(⟨l,o,r,p,rfl⟩:X4 λl' o' r' p'=>Expr.BinOp l o r p= .BinOp l' o' r' p')
 |UnaryOp o y p=>exact(⟨o,y,p,rfl⟩:X3 λo' y' p'=>Expr.UnaryOp o y p= .UnaryOp o' y' p')
 |BoolOp o vs p=>exact(⟨o,vs,p,rfl⟩:X3 λo' vs' p'=>Expr.BoolOp o vs p= .BoolOp o' vs' p')
 |Compare l os cs p=>exact(⟨l,os,cs,p,rfl⟩:X4 λl' os' cs' p'=>Expr.Compare l os cs p= .Compare l' os' cs' p')
 |Tuple es k p=>exact(⟨es,k,p,rfl⟩:X3 λes' k' p'=>Expr.Tuple es k p= .Tuple es' k' p')
 |List es p=>exact(⟨es,p,rfl⟩:∃es' p',Expr.List es p= .List es' p')
 |Subscript u v p=>exact(⟨u,v,p,rfl⟩:X3 λu' v' p'=>Expr.Subscript u v p= .Subscript u' v' p')
 |ListComp e gs sc p=>exact(⟨e,gs,sc,p,rfl⟩:X4 λe' gs' sc' p'=>Expr.ListComp e gs sc p= .ListComp e' gs' sc' p')
 |Call f as kw p=>exact(⟨f,as,kw,p,rfl⟩:X4 λf' as' kw' p'=>Expr.Call f as kw p= .Call f' as' kw' p')
 |Attribute y z p=>exact(⟨y,z,p,rfl⟩:X3 λy' z' p'=>Expr.Attribute y z p= .Attribute y' z' p')
 |Slice lo hi st p=>exact(⟨lo,hi,st,p,rfl⟩:X4 λlo' hi' st' p'=>Expr.Slice lo hi st p= .Slice lo' hi' st' p')
 |Dict ks vs p=>exact(⟨ks,vs,p,rfl⟩:X3 λks' vs' p'=>Expr.Dict ks vs p= .Dict ks' vs' p')
 |_=>exact True.intro
noncomputable def tV(x:Jo):Nat->Prop
 |0=>X3 λs v p=>x= .Assign s v p
 |1=>∃v p,x= .Expr v p
 |2=>∃v p,x= .Return v p
 |3=>X4 λu y z p=>x= .If u y z p
 |4=>X5 λt i y z p=>x= .For t i y z p
 |5=>X4 λt y z p=>x= .While t y z p
 |6=>X3 λv c p=>x= .Raise v c p
 |7=>X5 λy h z w p=>x= .Try y h z w p
 |_=>True
theorem sinv(x:Jo):tV x (sk x):=by
 induction x using Stmt.casesOn with
 |Assign ts v p=>exact(⟨ts,v,p,rfl⟩:X3 λts' v' p'=>Stmt.Assign ts v p= .Assign ts' v' p')
 |Expr v p=>exact(⟨v,p,rfl⟩:∃v' p',Stmt.Expr v p= .Expr v' p')
 |Return v p=>exact(⟨v,p,rfl⟩:∃v' p',Stmt.Return v p= .Return v' p')
 |If u y z p=>exact(⟨u,y,z,p,rfl⟩:X4 λu' y' z' p'=>Stmt.If u y z p= .If u' y' z' p')
 |For t i y z p=>exact(⟨t,i,y,z,p,rfl⟩:X5 λt' i' y' z' p'=>Stmt.For t i y z p= .For t' i' y' z' p')
 |While t y z p=>exact(⟨t,y,z,p,rfl⟩:X4 λt' y' z' p'=>Stmt.While t y z p= .While t' y' z' p')
 |Raise v c p=>exact(⟨v,c,p,rfl⟩:X3 λv' c' p'=>Stmt.Raise v c p= .Raise v' c' p')
 |Try y hs z w p=>exact(⟨y,hs,z,w,p,rfl⟩:X5 λy' hs' z' w' p'=>Stmt.Try y hs z w p= .Try y' hs' z' w' p')
 |_=>exact True.intro
theorem d8(h:(xk x==k&&b)=Jc):t6 x k/\b=Jc:=by
 obtain⟨N,p⟩:=Qg.mp h;have:=xinv x;rw[beq_iff_eq.mp N] at this;exact⟨this,p⟩
theorem jX(h:(sk x==k&&b)=Jc):tV x k/\b=Jc:=by
 obtain⟨N,p⟩:=Qg.mp h;have:=sinv x;rw[beq_iff_eq.mp N] at this;exact⟨this,p⟩
theorem and2(h:(a&&b)=Jc):a=Jc/\b=Jc:=Qg.mp h
theorem and3(h:(a&&b&&c)=Jc):a=Jc/\b=Jc/\c=Jc:=⟨(and2 (and2 h).1).1,(and2 (and2 h).1).2,(and2 h).2⟩
theorem and4{a b c d:Bool}(h:(a&&b&&c&&d)=Jc):a=Jc/\b=Jc/\c=Jc/\d=Jc:=by obtain⟨N,p⟩:=and2 h;exact by obtain⟨J,w,B⟩:=and3 N;exact⟨J,w,B,p⟩
theorem and5{a b c d e:Bool}(h:(a&&b&&c&&d&&e)=Jc):a=Jc/\b=Jc/\c=Jc/\d=Jc/\e=Jc:=by obtain⟨N,p⟩:=and2 h;exact by obtain⟨J,w,B,W⟩:=and4 N;exact⟨J,w,B,W,p⟩
theorem and6{a b c d e f:Bool}(h:(a&&b&&c&&d&&e&&f)=Jc):a=Jc/\b=Jc/\c=Jc/\d=Jc/\e=Jc/\f=Jc:=by obtain⟨N,p⟩:=and2 h;exact by obtain⟨J,w,B,W,S⟩:=and5 N;exact⟨J,w,B,W,S,p⟩
theorem nmE(h:Vl.Internal.nm y x=Jc):y=Qb x:=beq_iff_eq.mp h
section
variable{sc:Jk}{x:Jl}{P:Jl->Prop}
theorem ik(h:hCst c x=Jc)(k:∀n p,P (.Constant c n p)):P x:=by
 obtain⟨⟨c,n,p,rfl⟩,h⟩:=d8 (k:=0) (b:=ua _ x) h;obtain rfl:=Y8 h;exact k n p
theorem iP{f:Jq->Bool}(h:hName f y x=Jc)(k:∀p,f (Qb y)=Jc->bD (Qb y)=Jc->P (.Name (Qb y) p)):P x:=by
 obtain⟨⟨z,p,rfl⟩,h⟩:=d8 (k:=1) (b:=qName f y x) h;have h:=and3 h;obtain rfl:=nmE h.1;exact k p h.2.1 h.2.2
theorem Ae(h:hBin V f g x=Jc)(k:∀l o r p,mOp V o=Jc->f l=Jc->g r=Jc->P (.BinOp l o r p)):P x:=by
 obtain⟨⟨l,o,r,p,rfl⟩,h⟩:=d8 (k:=2) (b:=qBin V f g x) h;have h:=and3 h;exact k l o r p h.1 h.2.1 h.2.2
theorem Bm(h:(xk x==3&&qUn u f x)=Jc)(k:∀y p,f y=Jc->P (.UnaryOp u y p)):P x:=by
 obtain⟨⟨o,y,p,rfl⟩,h⟩:=d8 h;have h:=and2 h;obtain rfl:=Y8 h.1;exact k y p h.2
theorem uT(h:(xk x==4&&qBool u f g x)=Jc)(k:∀y z p,f y=Jc->g z=Jc->P (.BoolOp u [y,z] p))(A:∀y z w r p,f y=Jc->g (.BoolOp u (z::w::r) p)=Jc->P (.BoolOp u (y::z::w::r) p)):P x:=by
 obtain⟨⟨o,v,p,rfl⟩,h⟩:=d8 h
 rcases v with o0|⟨y,o0|⟨z,o0|⟨w,r⟩⟩⟩
 ·exact ft h
 ·exact ft h
 ·have h:=and2 h;obtain rfl:=Y8 h.1;exact k y z p (and2 h.2).1 (and2 h.2).2
 ·have h:=and2 h;obtain rfl:=Y8 h.1;exact A y z w r p (and2 h.2).1 (and2 h.2).2
theorem Ba(h:(xk x==5&&qIs u f g x)=Jc)(k:∀l c p,f l=Jc->g c=Jc->P (.Compare l [u] [c] p)):P x:=by
 obtain⟨⟨l,Q,s,p,rfl⟩,h⟩:=d8 h
 rcases Q with o0|⟨o,o0|⟨o0,o0⟩⟩<;>rcases s with _|⟨c,_|⟨_,_⟩⟩<;>first|exact ft h|skip
 have h:=and2 h;obtain rfl:=Y8 h.1;exact k l c p (and2 h.2).1 (and2 h.2).2
theorem fb(h:kz x=Jc):∀y p,x≠ .Starred y p:=by rintro y p rfl;exact ft h
theorem nt(h:(!b)=Jc):b=Jd:=(QQ _).mp h
theorem Au(h:hCmp V f g x=Jc)(k:∀l o r p,mC V o=Jc->f l=Jc->g r=Jc->JG o r=Jd->P (.Compare l [o] [r] p)):P x:=by
 obtain⟨⟨l,s,F,p,rfl⟩,h⟩:=d8 (k:=5) (b:=qCmp V f g x) h
 rcases s with o0|⟨o,o0|⟨o0,o0⟩⟩<;>rcases F with _|⟨c,_|⟨_,_⟩⟩<;>first|exact ft h|skip
 have h:=and4 h;exact k l o c p h.1 h.2.1 h.2.2.1<|nt h.2.2.2
theorem yP(h:hCmp2 v u f g e x=Jc)(k:∀l o U m r p,mC v o=Jc->mC u U=Jc->f l=Jc->g m=Jc->e r=Jc->JG U r=Jd->P (.Compare l [o,U] [m,r] p)):P x:=by
 obtain⟨⟨l,s,c,p,rfl⟩,h⟩:=d8 (k:=5) (b:=qCmp2 v u f g e x) h
 rcases s with o0|⟨o,o0|⟨U,o0|⟨o0,o0⟩⟩⟩<;>first|exact ft h|skip
 rcases c with o0|⟨m,o0|⟨r,o0|⟨o0,o0⟩⟩⟩<;>first|exact ft h|skip
 have h:=and6 h;exact k l o U m r p h.1 h.2.1 h.2.2.1 h.2.2.2.1 h.2.2.2.2.1<|nt h.2.2.2.2.2
theorem Aw{f:List Jl->Bool}(h:hTup f x=Jc)(k:∀es n p,f es=Jc->es.length<=100->P (.Tuple es n p)):P x:=by
 obtain⟨⟨es,n,p,rfl⟩,h⟩:=d8 (k:=7) (b:=qTup f x) h;exact k es n p (and2 h).1 (Y8 (and2 h).2)
theorem vl{f:List Jl->Bool}(h:hList f x=Jc)(k:∀es p,f es=Jc->es.length<=100->P (.List es p)):P x:=by
 obtain⟨⟨es,p,rfl⟩,h⟩:=d8 (k:=8) (b:=qList f x) h;exact k es p (and2 h).1 (Y8 (and2 h).2)
theorem qQ(h:hSub f g x=Jc)(k:∀u v p,f u=Jc->g v=Jc->P (.Subscript u v p)):P x:=by
 obtain⟨⟨u,v,p,rfl⟩,h⟩:=d8 (k:=10) (b:=qSub f g x) h;exact k u v p (and2 h).1 (and2 h).2
theorem Bj(h:hTo g x=Jc)(k:∀w q,g w=Jc->P (.Slice Jb (Ja w) Jb q)):P x:=by
 obtain⟨⟨l,i,s,q,rfl⟩,h⟩:=d8 (k:=14) (b:=qTo g x) h
 rcases l with o0|o0<;>rcases i with _|w<;>rcases s with _|_<;>first|exact ft h|exact k w q h
theorem Bp(h:hFr g x=Jc)(k:∀w q,g w=Jc->P (.Slice (Ja w) Jb Jb q)):P x:=by
 obtain⟨⟨l,i,s,q,rfl⟩,h⟩:=d8 (k:=14) (b:=qFrom g x) h
 rcases l with o0|w<;>rcases i with _|_<;>rcases s with _|_<;>first|exact ft h|exact k w q h
theorem uJ{g:Jk->XB}(h:hComp sc tg f g x=Jc)(k:∀e t i s p,f i=Jc->mTg s tg t=Jc->g s e=Jc->eW sc s=Jc->ownOk tg s=Jc->P (.ListComp e [⟨t,i,[],0⟩] s p)):P x:=by
 obtain⟨⟨e,y,s,p,rfl⟩,h⟩:=d8 (k:=11) (b:=qComp sc tg f g x) h
 rcases y with o0|⟨⟨t,i,o0|⟨o0,o0⟩,a⟩,o0|⟨o0,o0⟩⟩<;>first|exact ft h|skip
 have h:=and2 h;obtain rfl:=Y8 h.1;have h:=and5 h.2;exact k e t i s p h.1 h.2.1 h.2.2.1 h.2.2.2.1 h.2.2.2.2
theorem oC{g c:Jk->XB}(h:qO sc tg f g c x=Jc)(k:∀e t i z s p,f i=Jc->mTg s tg t=Jc->g s e=Jc->c s z=Jc->eW sc s=Jc->ownOk tg s=Jc->P (.ListComp e [⟨t,i,[z],0⟩] s p)):P x:=by
 obtain⟨⟨e,y,s,p,rfl⟩,h⟩:=d8 (k:=11) (b:=qU sc tg f g c x) h
 rcases y with o0|⟨⟨t,i,o0|⟨z,o0|⟨o0,o0⟩⟩,a⟩,o0|⟨o0,o0⟩⟩<;>first|exact ft h|skip
 have h:=and2 h;obtain rfl:=Y8 h.1;have h:=and6 h.2;exact k e t i z s p h.1 h.2.1 h.2.2.1 h.2.2.2.1 h.2.2.2.2.1 h.2.2.2.2.2
theorem s0{g:List Jl->Bool}(h:hCl f g x=Jc)(k:∀y as p,f y=Jc->g as=Jc->P (.Call y as [] p)):P x:=by
 obtain⟨⟨y,as,w,p,rfl⟩,h⟩:=d8 (k:=12) (b:=qCall f g x) h
 rcases w with o0|⟨o0,o0⟩
 ·exact k y as p (and2 h).1 (and2 h).2
 ·exact ft h
theorem t5{f:List Jl->Bool}(h:hCl (glb sc n) f x=Jc)(k:∀py as p,sc.names.lookup (Qb n)=Ja .globalImplicit->bD (Qb n)=Jc->f as=Jc->P (.Call (.Name (Qb n) py) as [] p)):P x:=
 s0 h λy as p N Y=>by
  obtain⟨py,rfl,J,w⟩:=kc N;exact k py as p J w Y
theorem wx{g:Pos->Bool}(h:hAt a f g x=Jc)(k:∀y p,f y=Jc->d9 y=Jc->g p=Jc->P (.Attribute y (Qb a) p)):P x:=by
 obtain⟨⟨y,z,p,rfl⟩,h⟩:=d8 (k:=13) (b:=qAttr a f g x) h;have h:=and4 h;obtain rfl:=nmE h.2.2.1;exact k y p h.1 h.2.1 h.2.2.2
theorem vj{g:List Jl->Bool}(h:hMc m f g x=Jc)(k:∀y as p q,f y=Jc->d9 y=Jc->(p.endLine==q.line)=Jc->g as=Jc->P (.Call (.Attribute y (Qb m) p) as [] q)):P x:=by
 obtain⟨⟨u,as,w,q,rfl⟩,h⟩:=d8 (k:=12) (b:=qMeth (λq=>hAt m f λp=>p.endLine==q.line) g x) h
 rcases w with o0|⟨o0,o0⟩
 ·have h:=and2 h;exact wx (P:=λu=>P<|.Call u as [] q) h.1 λy p N Y J=>k y as p q N Y J h.2
 ·exact ft h
theorem sK{Q:List Jl->Prop}(h:two2 f g l=Jc)(k:∀x y,f x=Jc->g y=Jc->Q [x,y]):Q l:=by
 rcases l with o0|⟨x,o0|⟨y,o0|⟨o0,o0⟩⟩⟩<;>first|exact ft h|exact k x y (and2 h).1 (and2 h).2
theorem xN(h:hEmp x=Jc)(k:∀p,P (.List [] p)):P x:=
 vl h λe p N o0=>by
  rcases e with o0|⟨o0,o0⟩
  ·exact k p
  ·exact ft N
theorem wp(h:sZ x=Jc)(k:∀p,P (.Dict [] [] p)):P x:=by
 obtain⟨⟨s,v,p,rfl⟩,h⟩:=d8 (k:=15) (b:=tx x) h
 rcases s with o0|⟨o0,o0⟩<;>rcases v with _|⟨_,_⟩<;>first|exact ft h|exact k p
end
section
variable{sc:Jk}{x:Jo}{P:Jo->Prop}
theorem oZ(h:kAsg f g x=Jc)(k:∀t v pos,f t=Jc->g v=Jc->P (.Assign [t] v pos)):P x:=by
 obtain⟨⟨s,v,p,rfl⟩,h⟩:=jX (k:=0) (b:=rAsg f g x) h
 rcases s with o0|⟨t,o0|⟨o0,o0⟩⟩<;>first|exact ft h|exact k t v p (and2 h).1 (and2 h).2
theorem zd(h:kAsg (hOwn sc y) f x=Jc)(k:∀z v pos,mTg sc (.name y) (.Name (Qb y) z)=Jc->f v=Jc->P (.Assign [.Name (Qb y) z] v pos)):P x:=
 oZ h λt v pos N J=>iP (P:=λt=>P<|.Assign [t] v pos) N λp w B=>k p v pos (by show(Vl.Internal.nm _ _&&isOwn sc _&&bD _)=Jc;rw[w,B,Bool.and_true,Bool.and_true];exact beq_self_eq_true _) J
theorem A2(h:kAsg (hTupT (eE sc xs)) f x=Jc)(k:∀es a b v pos,mTg sc (.tup xs) (.Tuple es a b)=Jc->f v=Jc->P (.Assign [.Tuple es a b] v pos)):P x:=
 oZ h λt v pos N J=>by
  obtain⟨⟨es,a,b,rfl⟩,N⟩:=d8 (k:=7) (b:=qTupT (eE sc xs) t) N;exact k es a b v pos N J
theorem zw(h:kExpr f x=Jc)(k:∀v pos,f v=Jc->P (.Expr v pos)):P x:=by
 obtain⟨⟨v,p,rfl⟩,h⟩:=jX (k:=1) (b:=rExpr f x) h;exact k v p h
theorem AZ(h:kRet f x=Jc)(k:∀v pos,f v=Jc->P (.Return (Ja v) pos)):P x:=by
 obtain⟨⟨v,p,rfl⟩,h⟩:=jX (k:=2) (b:=rRet f x) h
 rcases v with o0|v
 ·exact ft h
 ·exact k v p h
theorem Bn(h:kIf f g e x=Jc)(k:∀u y z pos,f u=Jc->g y=Jc->e z=Jc->P (.If u y z pos)):P x:=by
 obtain⟨⟨u,y,z,p,rfl⟩,h⟩:=jX (k:=3) (b:=rIf f g e x) h;have h:=and3 h;exact k u y z p h.1 h.2.1 h.2.2
theorem Ar(h:kFor f g e x=Jc)(k:∀t i y pos,f t=Jc->g i=Jc->e y=Jc->P (.For t i y [] pos)):P x:=by
 obtain⟨⟨t,i,y,z,p,rfl⟩,h⟩:=jX (k:=4) (b:=rFor f g e x) h
 rcases z with o0|⟨o0,o0⟩
 ·have h:=and3 h;exact k t i y p h.1 h.2.1 h.2.2
 ·exact ft h
theorem xn(h:uO f e x=Jc)(k:∀u y pos,f u=Jc->e y=Jc->P (.While u y [] pos)):P x:=by
 obtain⟨⟨u,y,z,p,rfl⟩,h⟩:=jX (k:=5) (b:=tM f e x) h
 rcases z with o0|⟨o0,o0⟩
 ·exact k u y p (and2 h).1 (and2 h).2
 ·exact ft h
theorem v5(h:t2 f x=Jc)(k:∀v pos,f v=Jc->P (.Raise (Ja v) Jb pos)):P x:=by
 obtain⟨⟨v,c,pos,rfl⟩,h⟩:=jX (k:=6) (b:=sG f x) h
 rcases v with o0|v<;>rcases c with _|_<;>first|exact ft h|exact k v pos h
theorem xV(h:kTry f (rH1 (rHd sc c g)) x=Jc)(k:∀y t R r p pos,f y=Jc->glb sc c t=Jc->g (R::r)=Jc->P (.Try y [.ExceptHandler (Ja t) Jb (R::r) p] [] [] pos)):P x:=by
 obtain⟨⟨y,s,z,w,p,rfl⟩,h⟩:=jX (k:=7) (b:=rTry f (rH1<|rHd sc c g) x) h
 rcases z with o0|⟨o0,o0⟩<;>rcases w with _|⟨_,_⟩<;>rcases s with _|⟨⟨t,n,b,q⟩,_|⟨_,_⟩⟩<;>first|exact ft h|exact ft (and2 h).2|skip
 have h:=and2 h
 rcases t with o0|t<;>rcases b with _|⟨R,r⟩<;>first|exact ft h.2|skip
 have Y:=and3 h.2
 rcases n with o0|n
 ·exact k y t R r q p h.1 Y.1 Y.2.2
 ·exact ft Y.2.1
end
section
set_option backward.match.sparseCases true
inductive BP(C:Cx)(σ:PH)(s:Je)(K:Bool->PH->Prop)(b:Bool)(s1:Je):Prop
 |mk (σ1:PH) (m:Sim C σ1 s1.heap) (st:Step none1 σ s.heap σ1 s1.heap) (r:Rest s s1) (k:K b σ1):BP C σ s K b s1
structure At(C:Cx)(n:Nat)(sc:Jk)(env:Js)(ρ:Rho)(A:Jj)(l:List Js)(σ:PH)(s:Je):Prop where
 sr:ScR sc env
 ev:EnvR C env ρ σ s.heap
 m:Sim C σ s.heap
 ak:AOK C n A l σ s.heap
theorem At.step{s W:Je}(I:At C n sc env L A l σ s)(st:Step none1 σ s.heap σ1 W.heap)(m:Sim C σ1 W.heap):At C n sc env L A l σ1 W:=⟨I.sr,I.ev.step st,m,I.ak.step st⟩
def EvOK(C:Cx)(G:Gx)(n:Nat)(sc:Jk)(e:E)(x:Jl):Prop:=∀ {F:Js} {L:Rho} {A:Jj} {l:List Js} {σ:PH} {s:Je} {Q:Post} {X:XPost},
 At C n sc F L A l σ s->we G (aO C n) e L σ Q X->EOK C A σ s (Jw x F) Q X
def TsOK(C:Cx)(G:Gx)(n:Nat)(sc:Jk)(e:E)(x:Jl):Prop:=∀ {F:Js} {L:Rho} {A:Jj} {l:List Js} {σ:PH} {s:Je} {K:Bool->PH->Prop} {X:XPost},
 At C n sc F L A l σ s->we G (aO C n) e L σ (λv m=>cV (λb=>K b m) v) X->Jh (Mo C) A (Y4 x F<|eval x F) (BP C σ s K) (XP C none1 σ s X) s
noncomputable def Evs(C:Cx)(G:Gx)(n:Nat)(sc:Jk):List E->List Jl->Prop
 |[],P=>P=[]
 |e::U,P=>X2 λx r=>A4 (P=x::r) (kz x=Jc) (EvOK C G n sc e x)<|Evs C G n sc U r
section
variable{C:Cx}{G:Gx}{mg mb:Jq->Option Jf}{n:Nat}{A:Jj}{σ:PH}{s:Je}{X:XPost}
theorem EOK.seq{R:Jf->Je->Prop}{W:Je}(h:EOK C A σ1 W t Q' X)(st:Step none1 σ s.heap σ1 W.heap)(r:Rest s W)
  (k:∀v J p O,VR C O J.heap p v->Sim C O J.heap->Step none1 σ s.heap O J.heap->Step none1 σ1 W.heap O J.heap->Rest s J->Q' p O->R v J):Jh (Mo C) A t R (XP C none1 σ s X) W:=
 YI h (λv J M=>by obtain⟨p,O,a,b,c,d,e⟩:=M;exact k v J p O a b (st.trans c) c (r.trans d) e) λo0 o0 x=>XP.from st r x
theorem EOKs.seq{Q':List PV->PH->Prop}{R:List Jf->Je->Prop}{W:Je}(h:EOKs C A σ1 W t Q' X)(st:Step none1 σ s.heap σ1 W.heap)(r:Rest s W)
  (k:∀v J p O,VRs C O J.heap p v->Sim C O J.heap->Step none1 σ s.heap O J.heap->Step none1 σ1 W.heap O J.heap->Rest s J->Q' p O->R v J):Jh (Mo C) A t R (XP C none1 σ s X) W:=
 YI h (λv J M=>by obtain⟨p,O,a,b,c,d,e⟩:=M;exact k v J p O a b (st.trans c) c (r.trans d) e) λo0 o0 x=>XP.from st r x
theorem VP.to0{W:Je}{Er:Jf->Je->Prop}(st:Step none1 σ s.heap σ1 W.heap)(r:Rest s W)(h:Jh (Mo C) A t (VP C none1 σ1 W Q) (λo0 o0=>False) W):Jh (Mo C) A t (VP C none1 σ s Q) Er W:=
 YI h (λo0 o0 x=>VP.from st r x) λo0 o0 x=>x.elim
structure Todo(C:Cx)(G:Gx)(n:Nat):Prop where
 attr:∀ {sc x f q p},isLoc sc (Qb x)=Jc->bD (Qb x)=Jc->EvOK C G n sc (.attr x f) (.Attribute (.Name (Qb x) q) (Qb f) p)
 mcall:∀ {sc c f o args y as p q},EvOK C G n sc o y->d9 y=Jc->(p.endLine==q.line)=Jc->Evs C G n sc args as->as.length<=20->bP f=Jd->cOf f=c->EvOK C G n sc (.mcall c f o args) (.Call (.Attribute y (Qb<|mOf f) p) as [] q)
theorem AOK.u100(a:AOK C n A l σ h):A.units+100<Y5:=by have:=a.units;exact zl (Ki (KF _ _)<|by decide) this
theorem dF{R:Bool->Je->Prop}{Er:Jf->Je->Prop}(h:R b s):Jh (Mo C) A (Ju (.bool b)) R Er s:=wpAny_truthy_bool h
theorem xh{K:Bool->Prop}(hv:VR C σ h p v)(w:cV K p):∃b,v= .bool b/\K b:=by
 obtain⟨b,rfl,w⟩:=lu w;exact⟨b,hv,w⟩
theorem wZ{x:Jl}(hx:∀env,Y4 x env (Jw x env)=(do let v<-Jw x env;standAt x.pos;holding [v] (Ju v)))(h:EvOK C G n sc e x):TsOK C G n sc e x:=by
 intro env ρ A l σ s K X I w;refine wpAny_isTrue_value (EOK.then (h I w) λv s1 p σ1 hv m1 st1 r1 q=> ?_)<|hx env;obtain⟨b,rfl,q⟩:=xh hv q;exact dF ⟨σ1,m1,st1,r1,q⟩
theorem VP.now(I:At C n sc env L A l σ s)(hv:VR C σ s.heap p v)(q:Q p σ):VP C none1 σ s Q v s:=VP.here I.m rfl ⟨rfl,rfl⟩ hv q
section
variable{sc:Jk}{a b c:E}{u v z:Jl}{p:Pos}{k:Nat}
theorem wP:EvOK C G n sc .none (.Constant .none k p):=λI w=>JI<|VP.now I j7 w
theorem v8{b:Bool}:EvOK C G n sc (.bool b) (.Constant (.bool b) k p):=λI w=>wpAny_Constant_bool<|VP.now I fY w
theorem yU{b:Int}:EvOK C G n sc (.int b) (.Constant (.int b) k p):=λI w=>wpAny_Constant_int<|VP.here I.m rfl ⟨rfl,rfl⟩ (eg _) w
theorem yF{b:String}:EvOK C G n sc (.str b) (.Constant (.str (Qb b)) k p):=λI w=>wpAny_Constant_str (VP.here (p:= .str b) I.m rfl ⟨rfl,rfl⟩ ⟨_,rfl⟩ w)
theorem jB{env:Js}(r:ScR sc env)(h:isLoc sc y=Jc):isLoc env.scope y=Jc:=by
 have:∀k,env.kindOf y=Ja k->(k= .local\/k= .cell\/k= .free)->isLoc env.scope y=Jc:=λk M Z=>by
  have M:env.scope.names.lookup y=Ja k:=M;unfold isLoc;rw[M];rcases Z with rfl|rfl|rfl<;>rfl
 rcases mc h with q|q|q
 ·exact this _ (r.loc y q)<|.inl rfl
 ·exact this _ (r.cell y q)<|.inr (.inl rfl)
 ·rcases r.free y q with q|q
  ·exact this _ q<|.inr (.inl rfl)
  ·exact this _ q<|.inr (.inr rfl)
theorem zv{b:String}(N:isLoc sc (Qb b)=Jc)(h:bD (Qb b)=Jc):EvOK C G n sc (.loc b) (.Name (Qb b) p):=λI w=>by
 obtain⟨v,e,w⟩:=jK w;exact kR I.ev (jB I.sr N) h e λK hv=>VP.now I hv w
theorem wY(g:GOK C G mg mb){b:String}(h:nj sc (Qb b)=Jc)(Y:bD (Qb b)=Jc):EvOK C G n sc (.glob b) (.Name (Qb b) p):=λI w=>by
 obtain⟨v,e,w⟩:=jK w;obtain⟨K,T,F⟩:=g.glob b v e;exact im g I.ev I.m (I.sr.glob _<|eq_of_beq h) Y T<|VP.now I (F _ _) w
theorem yq(N:mOp e o=Jc)(T:EvOK C G n sc a u)(R:EvOK C G n sc b v):EvOK C G n sc (.bin e a b) (.BinOp u o v p):=λI w=>
 wpAny_BinOp (EOK.then (T I w) λS W M j h m P B w=>
  EOK.seq (R (I.step P m) w) P B λH J U O f F V t r w=>VP.to0 V r (yV N F (h.step t) f w))
theorem zt(T:EvOK C G n sc a u):EvOK C G n sc (.not_ a) (.UnaryOp .Not u p):=λI w=>
 wpAny_UnaryOp (EOK.then (T I w) λf W o O h m t r w=>by
  obtain⟨b,rfl,w⟩:=xh h w;exact VP.to0 t r (not_value (dF (VP.here m rfl ⟨rfl,rfl⟩ fY w))))
theorem vz(h:TsOK C G n sc a u):TsOK C G n sc (.not_ a) (.UnaryOp .Not u p):=λ{F L A l σ s K X} I w=>
 wpAny_isTrue_Not (YI (h (K:=λb m=>K (!b) m) I w) (λb W x=>by obtain⟨a,b,c,d,e⟩:=x;exact⟨a,b,c,d,e⟩) λo0 o0 x=>x)
theorem sM{x y z:Jl}{Q Er:Jf->Je->Prop}
  (h:Jh (Mo C) A (Jw x env) (λv s₁=>Jh (Mo C) A (Ju v) (λt s₂=>if t then Jh (Mo C) A (Jw (.BoolOp .And (y::z::r) pos) env) Q Er s₂ else Q v s₂) Er s₁) Er s):
  Jh (Mo C) A (Jw (.BoolOp .And (x::y::z::r) pos) env) Q Er s:=by
 show Jh (Mo C) A (do
  let v<-Jw x env
  standAt pos
  let t<-holding [v] (Ju v)
  match BoolOp.And,t with
  | .And,Jd| .Or,Jc=>pure v
  |_,_=>boolOp pos .And (Jw y env::Jw z env::evalEach r env)) Q Er s
 refine YG<|YI h (λv s₁ h₁=>YG<|YK (YG<|YJ (YI h₁ (λt s₂ h₂=> ?_) λo0 o0 x=>x))) λo0 o0 x=>x
 induction t with
 |false=>exact YH h₂
 |true=>exact h₂
theorem wl{x y z:Jl}{Q Er:Jf->Je->Prop}
  (h:Jh (Mo C) A (Jw x env) (λv s₁=>Jh (Mo C) A (Ju v) (λt s₂=>if t then Q v s₂ else Jh (Mo C) A (Jw (.BoolOp .Or (y::z::r) pos) env) Q Er s₂) Er s₁) Er s):
  Jh (Mo C) A (Jw (.BoolOp .Or (x::y::z::r) pos) env) Q Er s:=by
 show Jh (Mo C) A (do
  let v<-Jw x env
  standAt pos
  let t<-holding [v] (Ju v)
  match BoolOp.Or,t with
  | .And,Jd| .Or,Jc=>pure v
  |_,_=>boolOp pos .Or (Jw y env::Jw z env::evalEach r env)) Q Er s
 refine YG<|YI h (λv s₁ h₁=>YG<|YK (YG<|YJ (YI h₁ (λt s₂ h₂=> ?_) λo0 o0 x=>x))) λo0 o0 x=>x
 induction t with
 |false=>exact h₂
 |true=>exact YH h₂
theorem rz(T:EvOK C G n sc a u)(R:EvOK C G n sc b v)(I:At C n sc env L A l σ s)(w:we G (aO C n) (.and_ a b) L σ Q X):
  Jh (Mo C) A (Jw u env) (λx s₁=>Jh (Mo C) A (Ju x) (λt j=>if t then Jh (Mo C) A (Jw v env) (VP C none1 σ s Q) (XP C none1 σ s X) j else VP C none1 σ s Q x j) (XP C none1 σ s X) s₁) (XP C none1 σ s X) s:=
 EOK.then (T I w) λf W o O h m P r w=>by
  obtain⟨b,rfl,w⟩:=xh h w;refine dF ?_
  induction b with
  |true=>exact EOK.after P r<|R (I.step P m) w
  |false=>exact VP.from P r<|VP.here m rfl ⟨rfl,rfl⟩ fY w
theorem sI(T:EvOK C G n sc a u)(R:EvOK C G n sc b v)(I:At C n sc env L A l σ s)(w:we G (aO C n) (.or_ a b) L σ Q X):
  Jh (Mo C) A (Jw u env) (λx s₁=>Jh (Mo C) A (Ju x) (λt j=>if t then VP C none1 σ s Q x j else Jh (Mo C) A (Jw v env) (VP C none1 σ s Q) (XP C none1 σ s X) j) (XP C none1 σ s X) s₁) (XP C none1 σ s X) s:=
 EOK.then (T I w) λf W o O h m P r w=>by
  obtain⟨b,rfl,w⟩:=xh h w;refine dF ?_
  induction b with
  |false=>exact EOK.after P r<|R (I.step P m) w
  |true=>exact VP.from P r<|VP.here m rfl ⟨rfl,rfl⟩ fY w
theorem BP.from{σ1:PH}{W:Je}{K:Bool->PH->Prop}{b:Bool}{J:Je}(st:Step none1 σ s.heap σ1 W.heap)(r:Rest s W)(x:BP C σ1 W K b J):BP C σ s K b J:=
 by obtain⟨O,a,b,c,d⟩:=x;exact⟨O,a,st.trans b,r.trans c,d⟩
theorem BP.after{W:Je}{K:Bool->PH->Prop}(st:Step none1 σ s.heap σ1 W.heap)(r:Rest s W)(h:Jh (Mo C) A t (BP C σ1 W K) (XP C none1 σ1 W X) W):
  Jh (Mo C) A t (BP C σ s K) (XP C none1 σ s X) W:=YI h (λo0 o0 x=>BP.from st r x) λo0 o0 x=>XP.from st r x
def Goes(C:Cx)(A:Jj)(t e:Sem Bool):Prop:=∀ (R:Bool->Je->Prop) (E:Jf->Je->Prop) (g:Je),Jh (Mo C) A e R E g->Jh (Mo C) A t R E g
theorem qk{K:Bool->PH->Prop}(H:TsOK C G n sc a u)(R:TsOK C G n sc b v)(I:At C n sc env L A l σ s)(w:we G (aO C n) (.and_ a b) L σ (λv σ1=>cV (λb=>K b σ1) v) X)(W:Goes C A t (Y4 v env (Jw v env))):
  Jh (Mo C) A (Y4 u env<|eval u env) (λb s₁=>if b then Jh (Mo C) A t (BP C σ s K) (XP C none1 σ s X) s₁ else BP C σ s K Jd s₁) (XP C none1 σ s X) s:=
 YI (H (K:=λT σ1=>if T then we G (aO C n) b L σ1 (λv σ1=>cV (λb=>K b σ1) v) X else K Jd σ1) I w) (λT O h=>by
  obtain⟨σ1,m,P,r,w⟩:=h
  induction T with
  |true=>exact W _ _ _<|BP.after P r (R (I.step P m) w)
  |false=>exact⟨σ1,m,P,r,w⟩) λo0 o0 x=>x
theorem uX{K:Bool->PH->Prop}(H:TsOK C G n sc a u)(R:TsOK C G n sc b v)(I:At C n sc env L A l σ s)(w:we G (aO C n) (.or_ a b) L σ (λv σ1=>cV (λb=>K b σ1) v) X)(W:Goes C A t (Y4 v env (Jw v env))):
  Jh (Mo C) A (Y4 u env<|eval u env) (λb s₁=>if b then BP C σ s K Jc s₁ else Jh (Mo C) A t (BP C σ s K) (XP C none1 σ s X) s₁) (XP C none1 σ s X) s:=
 YI (H (K:=λT σ1=>if T then K Jc σ1 else we G (aO C n) b L σ1 (λv σ1=>cV (λb=>K b σ1) v) X) I w) (λT O h=>by
  obtain⟨σ1,m,P,r,w⟩:=h
  induction T with
  |false=>exact W _ _ _<|BP.after P r (R (I.step P m) w)
  |true=>exact⟨σ1,m,P,r,w⟩) λo0 o0 x=>x
theorem xU(T:EvOK C G n sc a u/\TsOK C G n sc a u)(H:EvOK C G n sc b v/\TsOK C G n sc b v):EvOK C G n sc (.and_ a b) (.BoolOp .And [u,v] p)/\TsOK C G n sc (.and_ a b) (.BoolOp .And [u,v] p):=
 ⟨λI w=>wpAny_And2 (rz T.1 H.1 I w),λI w=>JX (J6 (qk T.2 H.2 I w λR E g h=>J6 (YI h (λb W H=>by
  induction b with
  |true=>exact wpAny_allTrue_And_nil H
  |false=>exact H) λo0 o0 x=>x)))⟩
theorem wA(T:EvOK C G n sc a u/\TsOK C G n sc a u)(H:EvOK C G n sc b (.BoolOp .And (v::z::r) p)/\TsOK C G n sc b (.BoolOp .And (v::z::r) p)):EvOK C G n sc (.and_ a b) (.BoolOp .And (u::v::z::r) p)/\TsOK C G n sc (.and_ a b) (.BoolOp .And (u::v::z::r) p):=
 ⟨λI w=>sM<|rz T.1 H.1 I w,λI w=>JX<|wpAny_allTrue_And_cons (qk T.2 H.2 I w λR E g h=>h)⟩
theorem AS(T:EvOK C G n sc a u/\TsOK C G n sc a u)(H:EvOK C G n sc b v/\TsOK C G n sc b v):EvOK C G n sc (.or_ a b) (.BoolOp .Or [u,v] p)/\TsOK C G n sc (.or_ a b) (.BoolOp .Or [u,v] p):=
 ⟨λI w=>wpAny_Or2 (sI T.1 H.1 I w),λI w=>JX (YN (uX T.2 H.2 I w λR E g h=>YN (YI h (λb W H=>by
  induction b with
  |true=>exact H
  |false=>exact wpAny_allTrue_Or_nil H) λo0 o0 x=>x)))⟩
theorem xX(T:EvOK C G n sc a u/\TsOK C G n sc a u)(H:EvOK C G n sc b (.BoolOp .Or (v::z::r) p)/\TsOK C G n sc b (.BoolOp .Or (v::z::r) p)):EvOK C G n sc (.or_ a b) (.BoolOp .Or (u::v::z::r) p)/\TsOK C G n sc (.or_ a b) (.BoolOp .Or (u::v::z::r) p):=
 ⟨λI w=>wl<|sI T.1 H.1 I w,λI w=>JX<|wpAny_allTrue_Or_cons (uX T.2 H.2 I w λR E g h=>h)⟩
theorem i0{σ:PH}{h:Ji}{p:PV}{v:Jf}(hv:VR C σ h p v):(v==Value.none)=p.isNone:=by
 induction p using PV.casesOn with
 |none=>rw[show v=_ from hv];rfl
 |bool=>rw[show v=_ from hv];rfl
 |int=>obtain⟨t,rfl⟩:=hv;rfl
 |str=>obtain⟨t,rfl⟩:=hv;rfl
 |tup=>obtain⟨a,o0,o0,rfl,o0⟩:=hv;rfl
 |ref=>rw[show v=_ from hv];rfl
 |scr=>obtain⟨a,o0,o0,o0,rfl,o0⟩:=hv;rfl
theorem se(T:EvOK C G n sc a u):EvOK C G n sc (.isNone a) (.Compare u [.Is] [.Constant .none k q] p):=λI w=>
 wpAny_Compare1 (EOK.then (T I w) λf W o m h e t r w=>JI<|is_none (by rw[i0 h];exact⟨.bool _,m,rfl,e,t,r,w⟩))
theorem pX(T:EvOK C G n sc a u):TsOK C G n sc (.isNone a) (.Compare u [.Is] [.Constant .none k q] p):=λI w=>
 YO (EOK.then (T I w) λf W o m h e t r w=>JI<|is_none (dF<|by rw[i0 h];exact⟨m,e,t,r,w⟩))
theorem pT(T:EvOK C G n sc a u):EvOK C G n sc (.notNone a) (.Compare u [.IsNot] [.Constant .none k q] p):=λI w=>
 wpAny_Compare1 (EOK.then (T I w) λf W o m h e t r w=>JI<|isNot_none (by rw[i0 h];exact⟨.bool _,m,rfl,e,t,r,w⟩))
theorem oE(T:EvOK C G n sc a u):TsOK C G n sc (.notNone a) (.Compare u [.IsNot] [.Constant .none k q] p):=λI w=>
 YO (EOK.then (T I w) λf W o m h e t r w=>JI<|isNot_none (dF<|by rw[i0 h];exact⟨m,e,t,r,w⟩))
theorem ic{W:Je}{K:PV->Bool->PH->Prop}{R:Jf->Jf->Je->Prop}(Y:mC g o=Jc)(H:EvOK C G n sc b v)(I:At C n sc env L A l σ1 W)(P:Step none1 σ s.heap σ1 W.heap)(m:Rest s W)(Q:VR C σ1 W.heap M J)
  (w:we G (aO C n) b L σ1 (λq O=>wcmp g M q O<|K q) X)(D:∀T U r σ3 Z,VR C σ3 Z.heap U r->Sim C σ3 Z.heap->Step none1 σ s.heap σ3 Z.heap->Rest s Z->K U T σ3->R r (.bool T) Z):
  Jh (Mo C) A (Jw v env) (λy j=>Jh (Mo C) A (YT o J y) (R y) (XP C none1 σ s X) j) (XP C none1 σ s X) W:=
 EOK.seq (H I w) P m λr s2 U O f B V t d w=>YI (yv Y B I.ak.u100 (Q.step t) f w) (λv Z h=>by
  obtain⟨S,σ3,i,F,e,E,T,rfl,N⟩:=h;rw[show v= .bool T from i];exact D T U r σ3 Z (f.step e) F (V.trans e) (d.trans E) N) λo0 o0 x=>x
theorem y6(N:mC V o=Jc)(O:JG o v=Jd)(H:EvOK C G n sc a u)(g:EvOK C G n sc b v):EvOK C G n sc (.cmp V a b) (.Compare u [o] [v] p)/\TsOK C G n sc (.cmp V a b) (.Compare u [o] [v] p):=
 ⟨λ{e L A l σ s Q X} I w=>wpAny_Compare1 (EOK.then (H I w) λP W j T h m t f w=>ic (R:=λo0=>VP C none1 σ s Q) N g (I.step t m) t f h w λM U F D Z o0 J y r q=>⟨.bool M,D,rfl,J,y,r,q⟩) O,
  λ{e L A l σ s K X} I w=>YO (EOK.then (H I w) λP W j T h m t f w=>ic (R:=λo0 c Z=>Jh (Mo C) A (Ju c) (BP C σ s K) (XP C none1 σ s X) Z) N g (I.step t m) t f h w λM U F D Z o0 J y r q=>dF ⟨D,J,y,r,q⟩) O⟩
theorem lj(h:JG U r=Jd):lastMarks [o,U] [f,r]=Jd:=by
 simpa [lastMarks] using h
theorem vo(N:mC L o=Jc)(Y:mC m r=Jc)(W:JG r z=Jd)(H:EvOK C G n sc a u)(g:EvOK C G n sc b v)(Z:EvOK C G n sc c z):EvOK C G n sc (.cmp2 a L b m c) (.Compare u [o,r] [v,z] p):=λ{F V A l σ s Q X} I w=>
 PyProof.Rows.Compare_chain (EOK.then (H I w) λv1 s1 q1 O K e P f w=>PyProof.Rows.chain_link (ic N g (I.step P e) P f K w λT M U D s3 h J t y w=>dF (by
  induction T with
  |false=>exact⟨.bool Jd,D,rfl,J,t,y,w⟩
  |true=>exact PyProof.Rows.chain_last (ic (R:=λo0=>VP C none1 σ s Q) Y Z (I.step t J) t y h w λT E S i j o0 d x B q=>⟨.bool T,i,rfl,d,x,B,q⟩)))) (lj W)
theorem sL(N:mC L o=Jc)(Y:mC m r=Jc)(W:JG r z=Jd)(S:EvOK C G n sc a u)(g:EvOK C G n sc b v)(Q:EvOK C G n sc c z):TsOK C G n sc (.cmp2 a L b m c) (.Compare u [o,r] [v,z] p):=λ{F M A l σ s K X} I w=>
 PyProof.Rows.isTrue_chain (EOK.then (S I w) λv1 s1 q1 O x e P f w=>PyProof.Rows.test_link (ic N g (I.step P e) P f x w λT U v2 D Z h J t y w=>dF (by
  induction T with
  |false=>exact⟨D,J,t,y,w⟩
  |true=>exact PyProof.Rows.test_last (ic (R:=λo0 c Z=>Jh (Mo C) A (Ju c) (BP C σ s K) (XP C none1 σ s X) Z) Y Q (I.step t J) t y h w λT E V i j o0 d H B q=>dF ⟨i,d,H,B,q⟩)))) (lj W)
end
end
end
theorem yd(h:kz x=Jc)(env:Js):∀v,JQ x env v=pure v:=by
 intro v
 induction x using Expr.casesOn with
 |Set es k p=>exact ft h
 |_=>rfl
section
variable{C:Cx}{G:Gx}{mg mb:Jq->Option Jf}{n:Nat}
theorem Evs.plain:∀ {es:List E} {xs:List Jl},Evs C G n sc es xs->d4 xs=Jc
 |[],_=>λh=>by rw[show _=[] from h];rfl
 |_::_,_=>λh=>by
  obtain⟨x,r,rfl,N,o0,J⟩:=h;exact gU (fb N)<|Evs.plain J
theorem Evs.length:∀ {es:List E} {xs:List Jl},Evs C G n sc es xs->xs.length=es.length
 |[],_=>λh=>by rw[show _=[] from h];rfl
 |_::_,_=>λh=>by
  obtain⟨x,r,rfl,o0,o0,J⟩:=h;exact Ud (· +1)<|Evs.length J
theorem jJ:∀ {es:List E} {xs:List Jl} {σ:PH} {s:Je} {Q:List PV->PH->Prop},
  Evs C G n sc es xs->At C n sc env L A l σ s->wes G (aO C n) es L σ Q X->EOKs C A σ s (J1<|backTo pos (JD xs env)) (λps σ1=>ps.length=es.length/\Q ps σ1) X
 |[],_,σ,s,Q=>λh I w=>by
  rw[show _=[] from h];exact Calls.spliced_nil ⟨[],σ,rfl,I.m,.refl _ _ _,⟨rfl,rfl⟩,rfl,w⟩
 |e::es,_,σ,s,Q=>λh I w=>by
  obtain⟨x,r,rfl,N,Y,J⟩:=h;rw[cL (fb N)];show Jh _ _ (J1 ((Jd,Jw x env)::JW pos (JD r env))) _ _ s;refine Calls.spliced_cons (EOK.then (Y I w) λW D M σ1 K m P f w=> ?_);refine EOKs.seq (jJ J (I.step P m) w) P f λj z ps O T F o t R w=> ?_;exact⟨M::ps,O,⟨W,j,rfl,K.step t,T⟩,F,o,R,Ud (· +1) w.1,w.2⟩
section
variable{sc:Jk}{a b:E}{es:List E}{u v:Jl}{xs:List Jl}{p:Pos}{k:Nat}
theorem zU(h:Evs C G n sc es xs)(Y:xs.length<=100):EvOK C G n sc (.tup es) (.Tuple xs k p):=λI w=>
 wpAny_Tuple_spliced (YI (jJ h I w) (λJ W T=>by
  obtain⟨t,O,hv,m,s,f,o,w⟩:=T;refine⟨?_,VP.from s f (VP.allocTup (vs:=J.toArray) (n:=0) m rfl ⟨rfl,rfl⟩ hv w)⟩;rw[hv.length,o,<-h.length];exact Qn Y (by decide)) λo0 o0 x=>x)
theorem wW(h:Evs C G n sc es xs)(Y:xs.length<=100):EvOK C G n sc (.list es) (.List xs p):=λI w=>
 wpAny_List_spliced (YI (jJ h I w) (λJ W T=>by
  obtain⟨t,O,hv,m,s,f,g,w⟩:=T;refine⟨?_,VP.from s f (VP.alloc (o:= .list t) m rfl ⟨rfl,rfl⟩ rfl ⟨J.toArray,0,rfl,hv⟩ w)⟩;rw[hv.length,g,<-h.length];exact Qn Y (by decide)) λo0 o0 x=>x)
theorem zW(H:EvOK C G n sc a u)(g:EvOK C G n sc b v):EvOK C G n sc (.sub a b) (.Subscript u v p):=λI w=>by
 refine PyProof.Rows.Subscript_ (EOK.then (H I w) λW Y S X h Q t d w=> ?_);refine EOK.seq (g (I.step t Q) w) t d λD E U O f m o s R j=> ?_;refine VP.to0 o R ?_
 rcases j with j|j
 ·obtain⟨r,i,N,rfl,e,J⟩:=iC j;obtain⟨k,M,z⟩:=iQ J;obtain⟨q,T,B⟩:=jK z;rw[show W= .ref r from h];exact wF I.ak.u100 m e f M T B
 obtain⟨k,F,j,B⟩:=gA j;obtain⟨q,T,B⟩:=jK B;refine zg m (h.step s) f T (λK M=> ?_) B;obtain rfl:=sj<|F.symm.trans M;exact Qn j<|by decide
end
theorem pd(k:Nat)(i:Int):clipAt k i=cut k i:=by
 unfold clipAt cut;by_cases h:0<=i
 ·rw[Ua h,Y9<|KI.mpr h,Int.max_eq_right (Int.le_min.mpr ⟨h,QS k⟩)];obtain⟨j,rfl⟩:=Int.eq_ofNat_of_zero_le h
  rcases Nat.le_total j k with q|q
  ·rw[Int.min_eq_left (Kq.mpr q)];exact(Nat.min_eq_left q).symm
  ·rw[Int.min_eq_right (Kq.mpr q)];exact(Nat.min_eq_right q).symm
 ·have h:=Yh.mp h;rw[Y9 (Yh.mpr h),Ua h,Int.min_eq_left (QL (Int.add_le_add_right (WY h) _)<|Int.le_of_eq (Wh _))]
  rcases Int.le_total 0 (i+k) with q|q
  ·rw[Int.max_eq_right q]
  ·rw[Int.max_eq_left q,Int.toNat_of_nonpos q];rfl
theorem lp{s:Je}{Er:Jf->Je->Prop}{l:List PV}{f hi:Option Int}(m:Sim C σ s.heap)(e:σ r=Ja (.list l))(pl:IsPart R f)(H:IsPart X hi)(Z:Okl l)
  (j:wnew (.list<|(l.drop<|f.elim 0 (clipAt l.length)).take (hi.elim l.length (clipAt l.length)-f.elim 0 (clipAt l.length))) σ Q):
  Jh (Mo C) A (PyProof.Rows.subscriptTail g i (.ref r)<|.ref s.heap.objs.size) (VP C none1 σ s Q) Er {s with heap:=s.heap.push {cls:= .type "slice",data:= .fields #[R,X,.none]}}:=by
 have t:Step none1 σ s.heap σ (s.heap.push {cls:= .type "slice",data:= .fields #[R,X,.none]}):= .push _ _ _ _;obtain⟨w,k,N,Y⟩:=m.list e;have h:w.size=l.length:=Y.length;obtain⟨z,d⟩:=lD i (.ref r)<|.ref s.heap.objs.size;have L:(s.heap.push {cls:= .type "slice",data:= .fields #[R,X,.none]}).IsList r w:=Heap.IsList.push ⟨_,N,rfl,k,rfl⟩ _;refine PyProof.Rows.tail_any (T:="list") (Heap.IsList.typeIs (s:={s with heap:=s.heap.push {cls:= .type "slice",data:= .fields #[R,X,.none]}}) L) slot_list_getitem.lookup
  (wpAny_getItem_list_slice L (Heap.IsSliceOf.new ..) pl H .none (by simp) ?_<|by rw[h];exact Qn Z<|by decide) d
 rw[slicePick_plain,h];refine VP.from (s₁:={s with heap:=s.heap.push {cls:= .type "slice",data:= .fields #[R,X,.none]}}) t ⟨rfl,rfl⟩<|VP.alloc (o:= .list _) (m.push _) rfl ⟨rfl,rfl⟩ rfl ⟨_,0,rfl,?_⟩ j;exact((Y.drop _).take _).step t
theorem lw{s J Z:Je}(st:Step none1 σ s.heap O J.heap)(r:Rest s J)(h:Jh (Mo C) A t (VP C none1 O J Q) (λo0 o0=>False) Z):Jh (Mo C) A t (VP C none1 σ s Q) (XP C none1 σ s X) Z:=
 YI h (λo0 o0 x=>VP.from st r x) λo0 o0 x=>x.elim
section
variable{sc:Jk}{a b:E}{es:List E}{u v:Jl}{xs:List Jl}{p q:Pos}
theorem xo(T:EvOK C G n sc a u)(H:EvOK C G n sc b v):EvOK C G n sc (.upto a b) (.Subscript u (.Slice Jb (Ja v) Jb q) p):=λ{F L A l E s Q X} I w=>by
 refine PyProof.Rows.Subscript_ (EOK.then (T I w) λW g M j h m t B w=> ?_);refine wpAny_Slice ?_;rw[evalPart_none,evalPart_some];refine YH ?_;refine EOK.seq (H (I.step t m) w) t B λz D U O f Y o i R w=>YH ?_;obtain⟨k,rfl,w⟩:=dw w;obtain⟨tk,rfl⟩:=f;refine lw o R ?_
 induction M using PV.casesOn with
 |ref r=>
  obtain⟨l,e,Z,J⟩:=gF (show onO (λl=>Okl l/\wnew (.list<|l.take (cut l.length k)) O Q) (O r) from w);rw[show W= .ref r from h];refine lp Y e .none (.int k tk) Z ?_;simp only[Option.elim,pd,List.drop_zero,Nat.sub_zero];exact J
 |_=>exact w.elim
theorem xp(T:EvOK C G n sc a u)(H:EvOK C G n sc b v):EvOK C G n sc (.from_ a b) (.Subscript u (.Slice (Ja v) Jb Jb q) p):=λ{F L A l E s Q X} I w=>by
 refine PyProof.Rows.Subscript_ (EOK.then (T I w) λW g M j h m t B w=> ?_);refine wpAny_Slice ?_;rw[evalPart_none,evalPart_some];refine EOK.seq (H (I.step t m) w) t B λz D U O f Y o i R w=>YH<|YH ?_;obtain⟨k,rfl,w⟩:=dw w;obtain⟨tk,rfl⟩:=f;refine lw o R ?_
 induction M using PV.casesOn with
 |ref r=>
  obtain⟨l,e,Z,J⟩:=gF (show onO (λl=>Okl l/\wnew (.list<|l.drop (cut l.length k)) O Q) (O r) from w);rw[show W= .ref r from h];refine lp Y e (.int k tk) .none Z ?_;simp only[Option.elim,pd];rw[Yj (by simp)];exact J
 |_=>exact w.elim
theorem gf{py p:Pos}:Jw (.Call (.Name f py) xs [] p) env=(do callWith p (<-Jw (.Name f py) env) [] (JW p (JD xs env)) (backToKw p (J2 [] env))):=rfl
theorem il{env:Js}{L:Rho}{σ:PH}{s:Je}{A:Jj}{l:List Js}{X:XPost}{x:String}{v:Jf}{py:Pos}{Q':List PV->PH->Prop}{R:Jf->Je->Prop}
  (h:Evs C G n sc es xs)(I:At C n sc env L A l σ s)
  (d:∀ (R:Jf->Je->Prop) (Er:Jf->Je->Prop),R v s->Jh (Mo C) A (Jw (.Name (Qb x) py) env) R Er s)(kp:Kp C v)(w:wes G (aO C n) es L σ Q' X)
  (k:∀vs W ps σ1,VRs C σ1 W.heap ps vs->Sim C σ1 W.heap->Step none1 σ s.heap σ1 W.heap->Rest s W->ps.length=es.length->Q' ps σ1->Jh (Mo C) A (call v vs) R (XP C none1 σ s X) W):
  Jh (Mo C) A (Jw (.Call (.Name (Qb x) py) xs [] p) env) R (XP C none1 σ s X) s:=by
 rw[gf];refine YG<|d _ _ (d5 (first:=[]) kp h.plain ?_);refine YI (jJ h I w) (λvs W T=> ?_) λo0 o0 x=>x;obtain⟨ps,σ1,hv,m,t,f,o,w⟩:=T;exact⟨m.base,k vs W ps σ1 hv m t f o w⟩
theorem vu(g:GOK C G mg mb){py:Pos}(D:bP f=Jc)(O:sc.names.lookup (Qb f)=Ja .globalImplicit)(d:bD (Qb f)=Jc)(h:Evs C G n sc es xs):EvOK C G n sc (.call f es) (.Call (.Name (Qb f) py) xs [] p):=λI w=>by
 obtain⟨v,hv,kp⟩:=g.fn f w.1;refine il h I (λR E X=>im g I.ev I.m (I.sr.glob _ O) d (g.fv f v D hv) X) kp w.2 λJ W t j T B s m o w=> ?_;obtain⟨K,e,o0,w⟩:=w;obtain rfl:=sj<|hv.symm.trans e;exact YI (w _ _ W J (I.ak.step s) B T) (λo0 o0 x=>VP.from s m x) λo0 o0 x=>XP.from s m x
end
theorem GOK.noSys(g:GOK C G mg mb){h:Ji}(m:Sim C σ h):h.objs.size≠JC:=λq=>by
 obtain⟨o,es,s,e,o0⟩:=g.g;have:=QO<|m.base _ _ e;rw[q] at this;exact absurd this<|by decide
theorem Ay(g:GOK C G mg mb){sc:Jk}{b:BI}{py p:Pos}(B:sc.names.lookup (Qb b.nm)=Ja .globalImplicit)(W:bD (Qb b.nm)=Jc)(h:Evs C G n sc es xs):EvOK C G n sc (.bi b es) (.Call (.Name (Qb b.nm) py) xs [] p):=λI w=>
 il h I (λR o X=>hS g I.ev I.m (I.sr.glob _ B) W b.mem b.boot X) (b.kp C) w.2 λJ D t O T m s f d H=>
  VP.to0 s f (AJ (I.ak.calm<|g.calm w.1) I.ak.u100 m T H<|g.noSys m)
theorem uE(h:T∈bty):YY (Qb T)=Ja (.type T)/\T∈bltNames:=by
 simp only[bty,Qw,Kx,or_false] at h
 rcases h with rfl|rfl|rfl|rfl|rfl<;>exact⟨by decide+kernel,by decide⟩
theorem kM{L:Type}{l:List L}(h:l.length=1):∃a,l=[a]:=by
 induction l using List.casesOn with
 |nil=>cases h
 |cons a r=>induction r using List.casesOn with
  |nil=>exact⟨a,rfl⟩
  |cons=>cases h
theorem lc:∀ {t:List String} {es:List Jl},kU sc t es=Jc->es.length=t.length
 |[],[]=>λo0=>rfl
 |[],_::_=>λh=>by exact ft h
 |_::_,[]=>λh=>by exact ft h
 |_::_,_::_=>λh=>Ud (· +1)<|lc (and2 h).2
inductive MTy(sc:Jk)(ts:List String)(t:Jl):Prop
 |tup (es:List Jl) (k:Nat) (p:Pos) (e:t= .Tuple es k p) (h:kU sc ts es=Jc) (h2:2<=es.length) (h3:es.length<=100):MTy sc ts t
 |one (d:String) (e:ts=[d]) (h:glb sc d t=Jc):MTy sc ts t
theorem sX{f:String->Bool}(h:oneT f t=Jc):∃d,t=[d]/\f d=Jc:=by
 induction t using List.casesOn with
 |nil=>exact bnx h
 |cons d r=>induction r using List.casesOn with
  |nil=>exact⟨d,rfl,h⟩
  |cons=>exact bnx h
theorem rX(h:mType sc ts t=Jc):MTy sc ts t:=by
 have one:∀t,oneT (λd=>glb sc d t) ts=Jc->MTy sc ts t:=λt h=>by obtain⟨d,e,h⟩:=sX h;exact .one d e h
 induction t using Expr.casesOn with
 |Tuple es k p=>
  obtain⟨h1,h2⟩:=and2 (show(kU sc ts es&&(decide (2<=es.length)&&decide (es.length<=100)))=Jc from h);exact .tup es k p rfl h1 (Y8 (and2 h2).1)<|of_decide_eq_true (and2 h2).2
 |_=>exact one _ h
theorem zm(T:Todo C G n)(g:GOK C G mg mb){sc:Jk}{py p:Pos}(M:sc.names.lookup (Qb "isinstance")=Ja .globalImplicit)(o:bD (Qb "isinstance")=Jc)(S:kz y=Jc)(J:mType sc m t=Jc)(D:EvOK C G n sc a y):
  EvOK C G n sc (.isi a m) (.Call (.Name (Qb "isinstance") py) [y,t] [] p):=λ{F ρ A l σ s Q X} I w=>by
 have z:stat m=Jc↔(m.length=1/\∀t∈m,t∈bty):=by
  simp only[stat,QV,beq_iff_eq,Qv,List.contains_eq_mem,Uc];rfl
 induction U:stat m with
 |false=>exact ft<|U.symm.trans (show _/\_ from w).1
 |true=>
 obtain⟨w1,w⟩:=w;obtain⟨i,L⟩:=z.mp U;obtain⟨R,rfl⟩:=kM i;have H:R∈bty:=L R<|Qj.mpr rfl;have ht:glb sc R t=Jc:=by
  cases rX J with
  |tup es k p e h Y J=>
   rw[lc h] at Y;exact absurd Y (show ¬2<=1 by decide)
  |one d e h=>cases e;exact h
 obtain⟨V,rfl,Z,O⟩:=kc ht;obtain⟨N,b2⟩:=uE H;rw[gf];refine YG<|hS g I.ev I.m (I.sr.glob _ M) o (by decide) (v:= .builtin "isinstance") (by decide+kernel) (d5 (first:=[]) ⟨.machine,.inr<|.inl rfl,W.Looks.of_pure rfl⟩ (gU (fb S) rfl) ?_);rw[cL (fb S)];show Jh _ _ (J1 [(Jd,Jw y F),(Jd,Jw (.Name (Qb R) V) F)]) _ _ s;refine Calls.spliced_cons (EOK.then (D I w) λv1 s1 p1 j K B P f w=> ?_);refine Calls.spliced_cons<|hS g (I.ev.step P) B (I.sr.glob _ Z) O b2 N (Calls.spliced_nil ⟨B.base,?_⟩);obtain⟨b,e,w⟩:=sH w;exact VP.to0 P f<|yD H B K e w
theorem kv{nm:Jq}(h:d9 x=Jc):attributeBase x nm env (Jw x env)=Jw x env:=by
 induction x using Expr.casesOn with
 |Call f as kw q=>induction as using List.casesOn with
  |nil=>exact bnx h
  |cons a as=>rcases f with⟨⟩<;>rfl
 |_=>rfl
theorem rW{xs:List Jl}{p q:Pos}(h2:d9 y=Jc)(h5:(p.endLine==q.line)=Jc)(h6:xs.length=1)(ho:EvOK C G n sc o y)(h:Evs C G n sc es xs):EvOK C G n sc (.meth o .append es) (.Call (.Attribute y (Qb "append") p) xs [] q):=λ{F ρ A l σ s Q X} I w=>by
 obtain⟨e,rfl⟩:=kM<|h.length.symm.trans h6;obtain⟨z,r,rfl,hz,N,rfl⟩:=h;have D:JD [z] F=[(Jd,Jw z F)]:=by rw[cL (fb hz)];rfl
 refine wpAny_Call_append (kv h2) ?_ h5 (by rw[D];rfl) ?_
 ·rw[D];rfl
 refine EOK.then (ho I w) λv1 s1 P T K L t r1 Z=> ?_;obtain⟨a,l1,rfl,e1,o0⟩:=eN (show onL T (λo0=>True) P from Z.1);rw[show v1= .ref a from K];obtain⟨W,k1,g1,g2⟩:=L.list e1;refine⟨a,W,rfl,⟨_,k1,g1,rfl,rfl,rfl⟩,?_⟩;refine EOK.seq (N (I.step t L) Z.2) t r1 λH s2 U O f M V i r2 j=> ?_;obtain⟨Y,R,j,w3⟩:=gF (show onO (λl=>l.length<lim/\Q .none (O.set a<|.list (l++[U]))) (O a) from j);obtain⟨m,k2,g3,d⟩:=M.list R;have J:m.size=Y.length:=d.length;refine VP.to0 V r2<|wpAny_list_append_plain ⟨k2,g3⟩ (λh' g B=> ?_) (by rw[J];exact Qn (Kv j)<|by decide);obtain⟨k3,g⟩:=g;obtain⟨u1,u2⟩:=Sim.upd (S:=none1) (o':= .list (Y++[U])) M R rfl B g ⟨m.push H,k3,rfl,by rw[Array.toList_push];exact d.append ⟨H,[],rfl,f,rfl⟩⟩;exact⟨.none,_,j7,u1,u2,⟨rfl,rfl⟩,w3⟩
theorem r8{xs:List Jl}{p q:Pos}(h2:d9 y=Jc)(h5:(p.endLine==q.line)=Jc)(h6:xs.length=1)(ho:EvOK C G n sc o y)(h:Evs C G n sc es xs):EvOK C G n sc (.meth o .remove es) (.Call (.Attribute y (Qb "remove") p) xs [] q):=λ{Y ρ A l σ s Q X} I w=>by
 obtain⟨e,rfl⟩:=kM<|h.length.symm.trans h6;obtain⟨z,r,rfl,T,J,rfl⟩:=h;have D:JD [z] Y=[(Jd,Jw z Y)]:=by rw[cL (fb T)];rfl
 refine wpAny_Call_method_late (kv h2) (by rw[D];rfl) h5 rfl ?_;refine EOK.then (ho I w) λv1 s1 S m K B t r1 Z=> ?_;obtain⟨a,l1,rfl,e1,o0⟩:=eN (show onL m (λo0=>True) S from Z.1);rw[show v1= .ref a from K];obtain⟨aa,k1,P,g2⟩:=B.list e1;refine⟨"list","list.remove",F.plainAttrs_list,F.slot_list_remove,F.type_list_remove,⟨_,P,rfl⟩,(λb' g=>by injection g with g;subst g;exact⟨_,P,rfl⟩),?_⟩;refine d5 (first:=[.ref a]) ⟨.machine,.inr<|.inl rfl,W.Looks.of_pure rfl⟩ (gU (fb T) rfl) ?_;rw[D];show Jh _ _ (J1 [(Jd,Jw z Y)]) _ _ s1;refine Calls.spliced_cons (EOK.seq (J (I.step t B) Z.2) t r1 λv2 s2 p2 O U M V i R w2=>Calls.spliced_nil ⟨M.base,?_⟩);obtain⟨l2,e2,c,f,j,q1,q2,N,H,L,w3⟩:=gF (show onO (λl=>X3 λc f j=>A6 (Rd O c p2) (Rds O f l) (okD c/\∀d∈f,okD d) (l.length<=lim) (f.findIdx? (λd=>PyData.eqv d c)=Ja j)<|Q .none (O.set a<|.list (l.eraseIdx j))) (O a) from w2);exact VP.to0 V R<|rV I.ak.u100 M e2 U q1 q2 N.1 N.2 H L w3
theorem uj:∀k,mU C k
 | .val=>uD
 | .range=>qh
 | .enum=>rG
theorem uN{tg:Tg}(h:mTg sc tg t=Jc)(h2:tg.isTup=Jc):qa t:=by
 induction tg with
 |name x=>exact ft h2
 |tup xs=>
  induction t using Expr.casesOn with
  |Tuple es a b=>exact⟨es,a,b,rfl⟩
  |_=>first|exact bnx h|exact onx h|cases h
def ItOK(C:Cx)(G:Gx)(n:Nat)(sc:Jk)(tg:Tg):IK->List E->Jl->Prop
 | .val,es,i=>Evs C G n sc es [i]
 | .range,es,i=>X3 λpy s q=>A4 (i= .Call (.Name (Qb "range") py) s [] q) (sc.names.lookup (Qb "range")=Ja .globalImplicit) (bD (Qb "range")=Jc)<|Evs C G n sc es s
 | .enum,es,i=>X3 λpy s q=>A5 (i= .Call (.Name (Qb "enumerate") py) s [] q) (sc.names.lookup (Qb "enumerate")=Ja .globalImplicit) (bD (Qb "enumerate")=Jc) (Evs C G n sc es s)<|tg.isTup=Jc
theorem ItOK.of(h:mIt sc k tg es i=Jc)(H:∀xs,mEs sc es xs=Jc->Evs C G n sc es xs):ItOK C G n sc tg k es i:=by
 induction k with
 |val=>exact H _ h
 |range=>exact t5 (P:=ItOK C G n sc tg .range es) (f:=λs=>mEs sc es s&&decide (s.length=1)) h λpy s q N Y J=>⟨py,s,q,rfl,N,Y,H _ (and2 J).1⟩
 |enum=>exact t5 (P:=ItOK C G n sc tg .enum es) (f:=λs=>mEs sc es s&&(decide (s.length=1)&&tg.isTup)) h λpy s q N Y J=>⟨py,s,q,rfl,N,Y,H _ (and2 J).1,(and2 (and2 J).2).2⟩
theorem Evs.one(h:Evs C G n sc es [x]):∃a,A3 (es=[a]) (kz x=Jc) (EvOK C G n sc a x):=by
 rcases es with o0|⟨a,es⟩
 ·cases h
 obtain⟨x,r,e,N,Y,J⟩:=h;cases e
 rcases es with o0|⟨o0,o0⟩
 ·exact⟨a,rfl,N,Y⟩
 ·obtain⟨o0,o0,e,o0⟩:=J;cases e
theorem ItOK.fold(h:ItOK C G n sc tg k es i)(env:Js):∀v,JQ i env v=pure v:=by
 induction k with
 |val=>obtain⟨a,rfl,N,o0⟩:=Evs.one h;exact yd N env
 |range=>obtain⟨o0,o0,o0,rfl,o0⟩:=h;intro v;rfl
 |enum=>obtain⟨o0,o0,o0,rfl,o0⟩:=h;intro v;rfl
theorem kX(g:GOK C G mg mb){K:List PV->(PH->Prop)->PH->Prop}
  (hk:G.calm=Jc)(hi:ItOK C G n sc tg k es i)(ht:mTg H tg t=Jc)(I:At C n sc env Y A l σ s)
  (w:wes G (aO C n) es Y σ (λvs σ1=>src k vs σ1 λxs chk=>xs.length<=lim/\K xs chk σ1) X):
  jv C A env t i σ s K (XP C none1 σ s X):=by
 intro R V;have fin:∀vs O h σ1,(k= .enum->qa t)->VRs C σ1 O.heap h vs->Sim C σ1 O.heap->Step none1 σ s.heap σ1 O.heap->Rest s O->(src k h σ1 λxs chk=>xs.length<=lim/\K xs chk σ1)->sV C A k vs R (XP C none1 σ s X) O:=λvs O h σ1 hz hv m P f w=>
  uj k A t h vs σ1 O K R _ (I.ak.calm<|g.calm hk) hz hv m w λxs chk I fp St L s2 S z m2 o F j hl hK=>
   V I fp St L s2 xs chk S z m2 (P.trans o) (f.trans F) (λb D=>⟨P.old m (j b D).1,(j b D).2⟩) hl hK
 induction k with
 |val=>
  obtain⟨a,rfl,o0,B⟩:=Evs.one hi;exact EOK.then (B I w) λJ O U σ1 Q m P f w=>fin [J] O [U] σ1 (λq=>by cases q) ⟨J,[],rfl,Q,rfl⟩ m P f w
 |range=>
  obtain⟨py,as,q,rfl,M,d,Z⟩:=hi;exact il Z I (λR N V=>hS g I.ev I.m (I.sr.glob _ M) d (by decide) (v:= .type "range") (by decide+kernel) V) ⟨.machine,.inr<|.inl rfl,W.Looks.of_pure rfl⟩
   w λvs O h σ1 T m P f hn w=>fin vs O h σ1 (λq=>by cases q) T m P f w
 |enum=>
  obtain⟨py,as,q,rfl,M,d,Z,h8⟩:=hi;exact il Z I (λR N V=>hS g I.ev I.m (I.sr.glob _ M) d (by decide) (v:= .type "enumerate") (by decide+kernel) V) ⟨.machine,.inr<|.inl rfl,W.Looks.of_pure rfl⟩
   w λvs O h σ1 T m P f hn w=>fin vs O h σ1 (λo0=>uN ht h8) T m P f w
theorem XP.none{P:Prop}(x:XP C none1 σ1 s (λo0 o0=>False) e s'):P:=by obtain⟨o0,o0,o0,o0,o0,o0,q⟩:=x;exact q.elim
section
variable{sc:Jk}{e c:E}{x y:Jl}{A:Jj}{l:List Js}
theorem ru(h:EvOK C G n sc e x)(i:Js)(K:ScR sc i)(L:Rho)(σ:PH)(s:Je)(Q:Post)(W:EnvR C i L σ s.heap)(m:Sim C σ s.heap)(t:AOK C n A l σ s.heap)(w:we G (aO C n) e L σ Q λo0 o0=>False)(Er:Jf->Je->Prop):Jh (Mo C) A (Jw x i) (VP C none1 σ s Q) Er s:=
 YI (h ⟨K,W,m,t⟩ w) (λo0 o0 x=>x) λo0 o0 x=>XP.none x
theorem tW(i:Js)(V:ScR sc i)(L:Rho)(σ:PH)(s:Je)(K:Bool->PH->Prop)(W:EnvR C i L σ s.heap)(m:Sim C σ s.heap)(h:AOK C n A l σ s.heap)(w:K Jc σ)(Er:Jf->Je->Prop):Jh (Mo C) A (tests [] i) (λok s'=>∃σ',A4 (Sim C σ' s'.heap) (Step none1 σ s.heap σ' s'.heap) (Rest s s') (K ok σ')) Er s:=
 wpAny_tests_nil ⟨σ,m,.refl _ _ _,⟨rfl,rfl⟩,w⟩
theorem uv(h:TsOK C G n sc e x)(i:Js)(W:ScR sc i)(L:Rho)(σ:PH)(s:Je)(K:Bool->PH->Prop)(X:EnvR C i L σ s.heap)(m:Sim C σ s.heap)(t:AOK C n A l σ s.heap)(w:we G (aO C n) e L σ (λv σ'=>cV (λb=>K b σ') v) λo0 o0=>False)(Er:Jf->Je->Prop):Jh (Mo C) A (tests [x] i) (λok s'=>∃σ',A4 (Sim C σ' s'.heap) (Step none1 σ s.heap σ' s'.heap) (Rest s s') (K ok σ')) Er s:=
 wpAny_tests_one (YI (h ⟨W,X,m,t⟩ w) (λb D x=>by obtain⟨T,F,j,H,O⟩:=x;exact⟨T,F,j,H,O⟩) λo0 o0 x=>XP.none x)
theorem w0(g:GOK C G mg mb)(N:ItOK C G n sc tg k es i)(Y:mTg M tg t=Jc)(T:eW sc M=Jc)(B:ownOk tg M=Jc)(O:EvOK C G n M e x):EvOK C G n sc (.comp e tg k es) (.ListComp x [⟨t,i,[],0⟩] M p):=λ{F L A l W s Q X} I w=>
 nO (tst:=λo0 W K=>K Jc W) (el:=λh W K=>we G (aO C n) e h W K λo0 o0=>False) I.ev I.ak I.sr T B Y (N.fold F) (kX g w.1 N Y I w.2) tW (ru O)
theorem sp(g:GOK C G mg mb)(N:ItOK C G n sc tg k es i)(Y:mTg M tg t=Jc)(o:eW sc M=Jc)(B:ownOk tg M=Jc)(O:EvOK C G n M e x)(Z:TsOK C G n M c y):EvOK C G n sc (.compIf e tg k es c) (.ListComp x [⟨t,i,[y],0⟩] M p):=λ{F L A l W s Q X} I w=>
 nO (tst:=λh W K=>we G (aO C n) c h W (λv T=>cV (λb=>K b T) v) λo0 o0=>False) (el:=λh W K=>we G (aO C n) e h W K λo0 o0=>False) I.ev I.ak I.sr o B Y (N.fold F) (kX g w.1 N Y I w.2) (uv Z) (ru O)
end
theorem tc(g:GOK C G mg mb):EvOK C G n sc .dict0 (.Dict [] [] p):=λ{F L A l t s Q X} I w=>by
 show Jh _ _ (Jw (.Dict [] [] p) F) _ _ s;rw[arm_eval_Dict];refine YG<|YK ?_;show Jh _ _ newDict _ _ s;exact JB<|VP.alloc (o:= .dict [] []) I.m rfl ⟨rfl,rfl⟩ rfl ⟨#[],0,[],⟨rfl,rfl,rfl⟩,rfl,rfl,rfl,.nil,λy h=>(bQ h),rfl⟩ w.2 (g.noSys I.m)
theorem nZ(h:kz y=Jc):JD [y,.List [] r] env=[(Jd,Jw y env),(Jd,Jw (.List [] r) env)]:=by
 rw[cL (fb h)];rfl
section
variable{sc:Jk}{a k:E}{y kx:Jl}{p q r:Pos}
theorem sJ{m:String}{id:String}{env:Js}{L:Rho}{σ:PH}{s:Je}{A:Jj}{l:List Js}{X:XPost}{P:PV->PH->PV->PH->Prop}{R:Jf->Je->Prop}(slot:Slot "dict" (Qb m) id)(h:typeOf (.builtin id)=pure (.type "method_descriptor"))
  (kp:Kp C (.builtin id))(U:d9 y=Jc)(z:(p.endLine==q.line)=Jc)(hz:kz kx=Jc)(I:At C n sc env L A l σ s)(S:EvOK C G n sc a y)(j:EvOK C G n sc k kx)
  (w:we G (aO C n) a L σ (λM σ1=>onD σ1 (λo0 o0=>True) M/\we G (aO C n) k L σ1 (λd O=>P M σ1 d O) X) X)
  (fin:∀r σ1 d O H J,P (.ref r) σ1 d O->VR C O J.heap d H->Sim C O J.heap->Step none1 σ s.heap O J.heap->Rest s J->
   Jh (Mo C) A (call (.builtin id) [.ref r,H,.ref J.heap.objs.size]) R (XP C none1 σ s X) {J with heap:=J.heap.push (lstO #[] 0)}):Jh (Mo C) A (Jw (.Call (.Attribute y (Qb m) p) [kx,.List [] r] [] q) env) R (XP C none1 σ s X) s:=by
 refine wpAny_Call_method_late (kv U) (by rw[nZ hz];rfl) z rfl ?_;refine EOK.then (S I w) λE g p1 σ1 K B t Y Z=> ?_;obtain⟨b,ks,ll,rfl,e,o0⟩:=iC Z.1;rw[show E= .ref b from K];obtain⟨xs,D⟩:=B.dict e;refine⟨"dict",id,F.plainAttrs_dict,slot,h,D.of.typeIs,PyProof.Rows.dictOfH_noDict D.of,?_⟩;refine d5 (first:=[.ref b]) kp (gU (fb hz) rfl) ?_;rw[nZ hz];show Jh _ _ (J1 [(Jd,Jw kx env),(Jd,Jw (.List [] r) env)]) _ _ g;refine Calls.spliced_cons (EOK.seq (j (I.step t B) Z.2) t Y λH J N O f T V i W Q=> ?_);refine Calls.spliced_cons<|wpAny_List_spliced (Calls.spliced_nil ⟨QT _,Calls.spliced_nil ⟨λb o q=>Qz _<|T.base b o q,?_⟩⟩);exact fin b σ1 N O H J Q f T V W
theorem ye(U:d9 y=Jc)(E:(p.endLine==q.line)=Jc)(hz:kz kx=Jc)(Z:EvOK C G n sc a y)(j:EvOK C G n sc k kx):EvOK C G n sc (.get a k) (.Call (.Attribute y (Qb "get") p) [kx,.List [] r] [] q):=λ{z V A l N s Q X} I w=>by
 refine sJ (m:="get") (P:=λf T d O=>onD O (λi l=>oK (λk=>wget (klook i l k) O Q)<|keyOf d) f) F.slot_dict_get F.type_dict_get ⟨.machine,.inr<|.inl rfl,W.Looks.of_pure rfl⟩ U E hz I Z j w ?_;intro r T d O v2 R w hv Y t M;obtain⟨b,i,ll,g,e,L⟩:=iC w;cases g;obtain⟨K,H,B⟩:=iQ L;have J:=Y.push<|lstO #[] 0;obtain⟨xs,D⟩:=J.dict e;obtain⟨S,rfl,h⟩:=kO H<|hv.step (Step.push none1 O R.heap<|lstO #[] 0);refine call_meetsIn F.slot_dict_get D.of.typeIs F.entry_dict_get (F.args_dict_get_3 _ _ _) (meetsH_dict_get_default (tk C.prog C.w) r S D.sys _) ⟨iu I.ak.u100,K,xs,h.is,D.of,?_⟩
 rcases D.look (k:=K) with⟨z1,z2⟩|⟨p,y,z1,z2,z3⟩
 ·rw[z2];rw[z1] at B;exact VP.from t M<|VP.alloc (o:= .list []) Y rfl ⟨rfl,rfl⟩ rfl ⟨#[],0,rfl,rfl⟩ B
 ·rw[z2];rw[z1] at B;exact⟨p,O,z3,J,t.trans<|.push _ _ _ _,M.trans ⟨rfl,rfl⟩,B⟩
theorem A1(h:d9 y=Jc)(h4:(p.endLine==q.line)=Jc)(hz:kz kx=Jc)(ha:EvOK C G n sc a y)(hk:EvOK C G n sc k kx):EvOK C G n sc (.sd a k) (.Call (.Attribute y (Qb "setdefault") p) [kx,.List [] r] [] q):=λ{aj ρ A l σ s Q X} I w=>by
 refine sJ (m:="setdefault") (P:=λva aa vk O=>wsd va O Q vk) F.slot_dict_setdefault F.type_dict_setdefault ⟨.machine,.inr (.inl rfl),W.Looks.of_pure rfl⟩ h h4 hz I ha hk w ?_;intro r aa vk O v2 J w hv m2 V r2;obtain⟨L,T,e,ae,w2⟩:=kH (show onDO (λL l=>l.length<lim/\oK (λk=>match klook L l k with
  |some v=>Q v O
  |none=>∀b,O b=Jb->Q (.ref b) ((O.set b (.list [])).set r (.dict (L++[k]) (l++[.ref b])))) (keyOf vk)) (O r) from w)
 obtain⟨t,af,B⟩:=iQ w2;have m3:=m2.push<|lstO #[] 0;have ac:=hv.step<|Step.push none1 O J.heap (lstO #[] 0);obtain⟨xs,D⟩:=m3.dict e;obtain⟨kb,rfl,f⟩:=kO af ac;have ad:xs.length<=JJ:=by
  have N:=D.v.length;rw[Qd] at N;rw[N,JU];exact Qn (Kv ae)<|by decide
 refine j6 (iu I.ak.u100) f.is D.sys D.of (λy z2=> ?_) (λz2 h' hd hs=> ?_) ad
 ·rcases D.look (k:=t) with⟨o0,z⟩|⟨p,y',z1,U,z4⟩
  ·exact sn<|z2.symm.trans z
  ·obtain rfl:=sj<|z2.symm.trans U;rw[z1] at B;exact⟨p,O,z4,m3,V.trans<|.push _ _ _ _,r2.trans ⟨rfl,rfl⟩,B⟩
 ·have z1:klook L T t=Jb:=by
   rcases D.look (k:=t) with⟨z,o0⟩|⟨p,y',o0,U,o0⟩
   ·exact z
   ·exact ns<|z2.symm.trans U
  rw[z1] at B;have hL:O J.heap.objs.size=Jb:=m2.fresh<|Qy _;have ah:r≠J.heap.objs.size:=λq=>by rw[q,hL] at e;exact ns e
  obtain⟨p4,an,a1,m4,ab,r4,⟨b4,a5,a6⟩⟩:=VP.alloc (S:=none1) (Q:=λv Y=>∃b,v= .ref b/\Y=O.set b (.list [])) (s:=J) (s':={J with heap:=J.heap.push (lstO #[] 0)}) (o:= .list []) m2 rfl ⟨rfl,rfl⟩ rfl ⟨#[],0,rfl,rfl⟩ λb hb=>⟨b,rfl,rfl⟩
  ·subst a5 a6;cases (show Value.ref J.heap.objs.size= .ref b4 from a1);have e4:(O.set J.heap.objs.size<|.list []) r=Ja (.dict L T):=by rw[PH.set_ne _ _ ah];exact e
   obtain⟨R,H⟩:=m4.dict e4;have M:R=xs:=by
    obtain⟨o1,ai,ak,g1,o0,d1,x1,o0⟩:=D.of;obtain⟨o2,al,am,g2,o0,d2,x2,o0⟩:=H.of;obtain rfl:=sj<|g1.symm.trans g2;rw[d1] at d2;cases d2;rw[x1] at x2;have d:=H.ks.trans D.ks.symm;refine Wz λi=> ?_;have N:(R.map (·.1))[i]? =(xs.map (·.1))[i]? :=by rw[d]
    have h:(xs.map<|entryOfKey (tk C.prog C.w))[i]? =(R.map<|entryOfKey (tk C.prog C.w))[i]? :=by rw[x2]
    rw[Qs,Qs] at N h
    induction E:R[i]? with
    |none=>rw[E] at h;induction Z:xs[i]? with
     |none=>rfl
     |some y=>rw[Z] at h;exact sn h
    |some z=>induction Z:xs[i]? with
     |none=>rw[E,Z] at N;exact sn N
     |some y=>
      rw[E,Z] at N h;obtain⟨z1,z2,U⟩:=z;obtain⟨y1,y2,y3⟩:=y;have N:z1=y1:=Option.some.inj N;have h:=Option.some.inj h;simp only[JL,DictEntry.mk.injEq,Value.ref.injEq] at h;rw[N,h.2.1,h.2.2]
   subst M;have K:KeyAt C (O.set J.heap.objs.size<|.list []) (J.heap.push<|lstO #[] 0) t kb:=by
    obtain⟨n',vs,mm,g,i⟩:=f;refine⟨?_,vs,mm,g,i⟩;rw[PH.set_ne]
    ·exact n'
    ·intro q;rw[q,QK _ rfl] at g;exact absurd (Ud (Wj Obj.cls) g)<|by simp
   obtain⟨u1,u2⟩:=H.set (p:= .ref J.heap.objs.size) (v:= .ref J.heap.objs.size) m4 e4 K rfl (by rw[storedH_new z2];exact hd) hs;have ek:kset L T t (.ref J.heap.objs.size)= .dict (L++[t]) (T++[.ref J.heap.objs.size]):=by
    unfold kset;have:kidx L t=Jb:=by
     induction q:kidx L t with
     |none=>rfl
     |some j=>
      have:=H.some_ (k:=t);rw[q,z2] at this;exact tf this
    rw[this]
   rw[ek] at u1 u2;exact⟨.ref J.heap.objs.size,_,rfl,u1,(V.trans ab).trans u2,(r2.trans r4).trans ⟨rfl,rfl⟩,B _ hL⟩
end
theorem VRs.bs:∀ {l:List PV} {bs:List Bool} {vs:List Jf},fF l=Ja bs->VRs C σ h l vs->vs=bs.map .bool
 |[],bs,vs=>λe r=>by rw[show vs=[] from r,<-sj e];rfl
 |p::l,bs,vs=>λe r=>by
  obtain⟨v,vs,rfl,f,M⟩:=r
  induction p using PV.casesOn with
  |bool b=>
   obtain⟨s,T,rfl⟩:=Qt.mp (show(fF l).map (b:: ·)=Ja bs from e);rw[show v= .bool b from f,VRs.bs T M];rfl
  |_=>exact ns e
def Both(C:Cx)(G:Gx)(n:Nat)(sc:Jk)(e:E)(x:Jl):Prop:=EvOK C G n sc e x/\TsOK C G n sc e x
theorem pl{x:Jl}(h:EvOK C G n sc e x)(hx:∀env,Y4 x env (Jw x env)=(do let v<-Jw x env;standAt x.pos;holding [v] (Ju v))):Both C G n sc e x:=⟨h,wZ hx h⟩
def WB(C:Cx)(G:Gx)(n:Nat)(e:E):Prop:=∀ (sc:Jk) (x:Jl),mE sc e x=Jc->Both C G n sc e x
def WBs(C:Cx)(G:Gx)(n:Nat)(es:List E):Prop:=∀ (sc:Jk) (xs:List Jl),mEs sc es xs=Jc->Evs C G n sc es xs
mutual
theorem bM(T:Todo C G n)(g:GOK C G mg mb):∀e:E,WB C G n e
 | .none=>λo0 o0 h=>ik h λo0 o0=>pl wP λo0=>rfl
 | .bool _=>λo0 o0 h=>ik h λo0 o0=>pl v8 λo0=>rfl
 | .int _=>λo0 o0 h=>ik h λo0 o0=>pl yU λo0=>rfl
 | .str _=>λo0 o0 h=>ik h λo0 o0=>pl yF λo0=>rfl
 | .loc _=>λo0 o0 h=>iP h λo0 h1 h2=>pl (zv h1 h2) λo0=>rfl
 | .glob _=>λo0 o0 h=>iP h λo0 h1 h2=>pl (wY g h1 h2) λo0=>rfl
 | .bin _ a b=>λo0 o0 h=>Ae h λo0 o0 o0 o0 h1 h2 h3=>pl (yq h1 (bM T g a _ _ h2).1 (bM T g b _ _ h3).1) λo0=>rfl
 | .not_ a=>λo0 o0 h=>Bm h λo0 o0 h=>⟨zt (bM T g a _ _ h).1,vz (bM T g a _ _ h).2⟩
 | .and_ a b=>λo0 o0 h=>uT h (λo0 o0 o0 h1 h2=>xU (bM T g a _ _ h1) (bM T g b _ _ h2)) λo0 o0 o0 o0 o0 h1 h2=>wA (bM T g a _ _ h1)<|bM T g b _ _ h2
 | .or_ a b=>λo0 o0 h=>uT h (λo0 o0 o0 h1 h2=>AS (bM T g a _ _ h1) (bM T g b _ _ h2)) λo0 o0 o0 o0 o0 h1 h2=>xX (bM T g a _ _ h1)<|bM T g b _ _ h2
 | .isNone a=>λo0 o0 h=>Ba h λl c p h1 h2=>ik (P:=λc=>Both C G n _ _ (.Compare l [_] [c] p)) h2 λo0 o0=>⟨se (bM T g a _ _ h1).1,pX (bM T g a _ _ h1).1⟩
 | .notNone a=>λo0 o0 h=>Ba h λl c p h1 h2=>ik (P:=λc=>Both C G n _ _ (.Compare l [_] [c] p)) h2 λo0 o0=>⟨pT (bM T g a _ _ h1).1,oE (bM T g a _ _ h1).1⟩
 | .cmp _ a b=>λo0 o0 h=>Au h λo0 o0 o0 o0 h1 h2 h3 h4=>y6 h1 h4 (bM T g a _ _ h2).1 (bM T g b _ _ h3).1
 | .cmp2 a _ b _ c=>λo0 o0 h=>yP h λo0 o0 o0 o0 o0 o0 h1 h2 h3 h4 h5 h6=>⟨vo h1 h2 h6 (bM T g a _ _ h3).1 (bM T g b _ _ h4).1 (bM T g c _ _ h5).1,sL h1 h2 h6 (bM T g a _ _ h3).1 (bM T g b _ _ h4).1 (bM T g c _ _ h5).1⟩
 | .tup es=>λo0 o0 h=>Aw h λo0 o0 o0 h1 h2=>pl (zU (c8 T g es _ _ h1) h2) λo0=>rfl
 | .list es=>λo0 o0 h=>vl h λo0 o0 h1 h2=>pl (wW (c8 T g es _ _ h1) h2) λo0=>rfl
 | .sub a b=>λo0 o0 h=>qQ h λo0 o0 o0 h1 h2=>pl (zW (bM T g a _ _ h1).1 (bM T g b _ _ h2).1) λo0=>rfl
 | .upto a b=>λo0 o0 h=>qQ h λu o0 p h1 h2=>Bj (P:=λv=>Both C G n _ _ (.Subscript u v p)) h2 λo0 o0 h2=>pl (xo (bM T g a _ _ h1).1 (bM T g b _ _ h2).1) λo0=>rfl
 | .from_ a b=>λo0 o0 h=>qQ h λu o0 p h1 h2=>Bp (P:=λv=>Both C G n _ _ (.Subscript u v p)) h2 λo0 o0 h2=>pl (xp (bM T g a _ _ h1).1 (bM T g b _ _ h2).1) λo0=>rfl
 | .comp elt _ _ it=>λo0 o0 h=>uJ h λo0 o0 o0 o0 o0 h1 h2 h3 h4 h5=>pl (w0 g (.of h1 (c8 T g it _)) h2 h4 h5 (bM T g elt _ _ h3).1) λo0=>rfl
 | .compIf elt _ _ it c=>λo0 o0 h=>oC h λo0 o0 o0 o0 o0 o0 h1 h2 h3 h6 h4 h5=>pl (sp g (.of h1 (c8 T g it _)) h2 h4 h5 (bM T g elt _ _ h3).1 (bM T g c _ _ h6).2) λo0=>rfl
 | .call f args=>λsc o0 h=>s0 (f:=λx=>glb sc f x&&bP f) h λy as p h1 h2=>by
  obtain⟨py,rfl,h3,h4⟩:=kc (and2 h1).1;exact pl (vu g (and2 h1).2 h3 h4 (c8 T g args _ _ (and2 h2).1)) λo0=>rfl
 | .bi _ args=>λo0 o0 h=>t5 h λo0 o0 o0 h1 h2 h3=>pl (Ay g h1 h2 (c8 T g args _ _ (and2 h3).1)) λo0=>rfl
 | .isi a ts=>λsc o0 h=>t5 h λpy as p h1 h2 h3=>sK (Q:=λas=>Both C G n sc (.isi a ts) (.Call (.Name (Qb "isinstance") py) as [] p)) h3 λo0 o0 h3 h4=>pl (zm T g h1 h2 (and2 h3).1 h4 (bM T g a _ _ (and2 h3).2).1) λo0=>rfl
 | .meth o .remove args=>λo0 o0 h=>vj h λo0 o0 o0 o0 h1 h2 h3 h4=>pl (r8 h2 h3 (Y8 (and2 h4).2) (bM T g o _ _ h1).1 (c8 T g args _ _ (and2 h4).1)) λo0=>rfl
 | .meth o .append args=>λo0 o0 h=>vj h λo0 o0 o0 o0 h1 h2 h3 h4=>pl (rW h2 h3 (Y8 (and2 h4).2) (bM T g o _ _ h1).1 (c8 T g args _ _ (and2 h4).1)) λo0=>rfl
 | .dict0=>λo0 o0 h=>wp h λo0=>pl (tc g) λo0=>rfl
 | .get a k=>λo0 o0 h=>vj h λy o0 p q h1 h2 h3 h4=>sK (Q:=λas=>Both C G n _ _ (.Call (.Attribute y _ p) as [] q)) h4 λkx o0 h4 h5=>xN (P:=λz=>Both C G n _ _ (.Call (.Attribute y _ p) [kx,z] [] q)) h5 λo0=>pl (ye h2 h3 (and2 h4).1 (bM T g a _ _ h1).1 (bM T g k _ _ (and2 h4).2).1) λo0=>rfl
 | .sd a k=>λo0 o0 h=>vj h λy o0 p q h1 h2 h3 h4=>sK (Q:=λas=>Both C G n _ _ (.Call (.Attribute y _ p) as [] q)) h4 λkx o0 h4 h5=>xN (P:=λz=>Both C G n _ _ (.Call (.Attribute y _ p) [kx,z] [] q)) h5 λo0=>pl (A1 h2 h3 (and2 h4).1 (bM T g a _ _ h1).1 (bM T g k _ _ (and2 h4).2).1) λo0=>rfl
 | .attr _ _=>λo0 o0 h=>wx h λo0 p h1 o0 o0=>iP (P:=λy=>Both C G n _ _ (.Attribute y _ p)) h1 λo0 h1 h2=>pl (T.attr h1 h2) λo0=>rfl
 | .mcall _ _ o args=>λo0 o0 h=>vj h λo0 o0 o0 o0 h1 h2 h3 h4=>pl (T.mcall (bM T g o _ _ h1).1 h2 h3 (c8 T g args _ _ (and2 h4).1) (Y8 (and3 (and2 h4).2).1) (nt (and3 (and2 h4).2).2.1) (Ub (and3 (and2 h4).2).2.2)) λo0=>rfl
theorem c8(T:Todo C G n)(g:GOK C G mg mb):∀es:List E,WBs C G n es
 |[]=>λo0 xs h=>by
  rcases xs with o0|⟨o0,o0⟩
  ·rfl
  ·exact ft h
 |a::r=>λo0 xs h=>by
  rcases xs with o0|⟨x,xs⟩
  ·exact ft h
  ·have h:=and2 h;exact⟨x,xs,rfl,(and2 h.1).1,(bM T g a _ _ (and2 h.1).2).1,c8 T g r _ _ h.2⟩
end
end
noncomputable def ownE(env:Js):Jg->Prop:=λb=>b=env.locals\/∃x,env.cells.lookup x=Ja b
def FR(C:Cx)(σ:PH)(h:Ji):Fl->Flow->Prop
 | .next,f=>f= .next
 | .ret p,f=>∃v,f= .ret v/\VR C σ h p v
inductive SP(C:Cx)(n:Nat)(A:Jj)(l:List Js)(env:Js)(σ:PH)(s:Je)(Q:SPost)(f:Flow)(s':Je):Prop
 |mk (fl:Fl) (ρ':Rho) (σ':PH) (a:FR C σ' s'.heap fl f) (b:EnvR C env ρ' σ' s'.heap) (c:Sim C σ' s'.heap) (d:Step (ownE env) σ s.heap σ' s'.heap) (e:Rest s s') (k:AOK C n A l σ' s'.heap) (q:Q fl ρ' σ'):SP C n A l env σ s Q f s'
inductive SX(C:Cx)(n:Nat)(A:Jj)(l:List Js)(env:Js)(σ:PH)(s:Je)(X:gu)(e:Jf)(s':Je):Prop
 |mk (x:PX) (ρ':Rho) (σ':PH) (a:Fly C env.frame x e σ' s.heap s'.heap) (b:EnvR C env ρ' σ' s'.heap) (c:Sim C σ' s'.heap) (d:Step (ownE env) σ s.heap σ' s'.heap) (r:Rest s s') (k:AOK C n A l σ' s'.heap) (q:X x ρ' σ'):SX C n A l env σ s X e s'
def TopF(env:Js)(l:List Js):Prop:=∃K,l=env::K/\env.frame=Ja env.locals
structure AtS(C:Cx)(n:Nat)(sc:Jk)(env:Js)(ρ:Rho)(A:Jj)(l:List Js)(σ:PH)(s:Je):Prop extends At C n sc env ρ A l σ s where
 tf:TopF env l
def StK(C:Cx)(G:Gx)(n:Nat)(sc:Jk)(st:S)(x:Jo):Prop:=∀ {env:Js} {L:Rho} {A:Jj} {l:List Js} {σ:PH} {s:Je} {Q:SPost} {X:gu},
 AtS C n sc env L A l σ s->ws G (aO C n) (aO C.un n) st L σ Q X->Jh (Mo C) A (exec x env) (SP C n A l env σ s Q) (SX C n A l env σ s X) s
def StsK(C:Cx)(G:Gx)(n:Nat)(sc:Jk)(t:List S)(xs:List Jo):Prop:=∀ {env:Js} {L:Rho} {A:Jj} {l:List Js} {σ:PH} {s:Je} {Q:SPost} {X:gu},
 AtS C n sc env L A l σ s->wss G (aO C n) (aO C.un n) t L σ Q X->Jh (Mo C) A (execs xs env) (SP C n A l env σ s Q) (SX C n A l env σ s X) s
structure Todo2(C:Cx)(G:Gx)(n:Nat):Prop where
 while_:∀ {sc t b u y p},TsOK C G n sc t u->StsK C G n sc b y->StK C G n sc (.while_ t b) (.While u y [] p)
 raise:C.ok->C.calm->∀ {sc c args py as p q},sc.names.lookup (Qb c)=Ja .globalImplicit->bD (Qb c)=Jc->as.length<=20->Evs C G n sc args as->StK C G n sc (.raise c args) (.Raise (Ja<|.Call (.Name (Qb c) py) as [] p) Jb q)
 try1:C.ok->C.calm->∀ {sc b c h y t hb hr p q},glb sc c t=Jc->StsK C G n sc b y->StsK C.un G.un n sc h (hb::hr)->StK C G n sc (.try1 b c h) (.Try y [.ExceptHandler (Ja t) Jb (hb::hr) p] [] [] q)
section
variable{C:Cx}{G:Gx}{mg mb:Jq->Option Jf}{n:Nat}{A:Jj}{env:Js}{l:List Js}{σ:PH}{s:Je}
theorem Step.own{h S:Ji}(st:Step none1 σ h σ' S):Step (ownE env) σ h σ' S:=st.mono λo0 o0 f=>f.elim
theorem XP.stmt(W:EnvR C env L σ s.heap)(k:AOK C n A l σ s.heap)(x:XP C none1 σ s (λx σ1=>X x L σ1) e s'):SX C n A l env σ s X e s':=
 by obtain⟨x,T,a,b,c,d,q⟩:=x;exact⟨x,L,T,a.weak,W.step c,b,c.own,d,k.step c,q⟩
theorem SX.none{P:Prop}(x:SX C n A l env σ1 W (λo0 o0 o0=>False) e s'):P:=by obtain⟨o0,o0,o0,o0,o0,o0,o0,o0,o0,q⟩:=x;exact q.elim
theorem SP.from{W:Je}(st:Step (ownE env) σ s.heap σ1 W.heap)(r:Rest s W)(x:SP C n A l env σ1 W Q f s'):SP C n A l env σ s Q f s':=
 by obtain⟨fl,L,X,a,b,c,d,e,q,w⟩:=x;exact⟨fl,L,X,a,b,c,st.trans d,r.trans e,q,w⟩
theorem SX.from{W:Je}(st:Step (ownE env) σ s.heap σ1 W.heap)(r:Rest s W)(x:SX C n A l env σ1 W X f s'):SX C n A l env σ s X f s':=
 by obtain⟨fl,L,T,a,b,c,d,e,q,w⟩:=x;exact⟨fl,L,T,a.from st,b,c,st.trans d,r.trans e,q,w⟩
theorem jd(h:slot env xs c):ownE env c:=by
 obtain⟨x,o0,q|q⟩:=h
 ·exact .inl q.2
 ·exact .inr ⟨_,q.2⟩
theorem nz{h:Ji}(W:EnvR C env L σ h)(q:ownE env c):∃o,h.get? c=Ja o/\¬isSeq o:=by
 rcases q with rfl|⟨x,q⟩
 ·obtain⟨o0,⟨o,U,H,e,d,o0⟩,o0⟩:=W.ns;exact⟨o,e,d7 d⟩
 ·obtain⟨o0,v,o,e,d⟩:=W.newC x c q;exact⟨o,e,fW d⟩
theorem Asg.step{S:Rho}(a:Asg C env (slot env xs) σ h W)(P:EnvR C env S B h₀)(st:Step (ownE env) B h₀ σ h):Step (ownE env) B h₀ σ W:=
 st.mvS a.mv λc f=> .inr ⟨jd f,λo e=>by obtain⟨i,g,q⟩:=nz P<|jd f;obtain rfl:=sj<|e.symm.trans g;exact q,by obtain⟨o,e,_⟩:=(a.has c f).2;exact⟨o,e⟩⟩
theorem AOK.asg{F:Jg->Prop}{h S:Ji}(k:AOK C n A l σ h)(a:Asg C env F σ h S):AOK C n A l σ S:=⟨k.depth,k.units,k.stack,a.frs l k.frs,k.calm⟩
theorem pE{tg:Tg}(r:ScR sc env)(h:mTg sc tg t=Jc):∀x∈tg.names,env.kindOf (Qb x)=Ja .local\/env.kindOf (Qb x)=Ja .cell:=
 λx hx=>(qS h x hx).imp (r.loc _) (r.cell _)
theorem oQ{tg:Tg}{W:Je}{Er:Jf->Je->Prop}(U:tg.isT=Jc->A.handled=Jb)(k:ScR sc env)(h:mTg sc tg t=Jc)(X:EnvR C env L σ s.heap)(q:AOK C n A l σ s.heap)
  (st:Step none1 σ s.heap σ1 W.heap)(r:Rest s W)(m:Sim C σ1 W.heap)(hv:VR C σ1 W.heap p v)(b:bindT tg p L=Ja ρ')(w:Q .next ρ' σ1):
  Jh (Mo C) A (assign t env v) (λo0 J=>SP C n A l env σ s Q .next J) Er W:=
 iB U h (X.step st) m (pE k h) hv b λJ a x M=>⟨.next,ρ',σ1,rfl,x,a.sim,a.step X st.own,r.trans M,(q.step st).asg a,w⟩
theorem p6{py:Pos}(h:kz x=Jc):JR x (Ja (.Name y py)) ln env=pure Jd\/(JR x (Ja (.Name y py)) ln env=pure Jc/\xk x=11):=by
 induction x using Expr.casesOn with
 |ListComp a b c d=>
  have:∃bb,JR (.ListComp a b c d) (Ja<|.Name y py) ln env=pure bb:=⟨_,rfl⟩
  obtain⟨bb,hb⟩:=this
  induction bb with
  |true=>exact .inr ⟨hb,rfl⟩
  |false=>exact .inl hb
 |SetComp=>exact ft h
 |DictComp=>exact ft h
 |_=>exact .inl rfl
theorem g9(h:kz x=Jc)(ht:(xk t==1)=Jd):JR x (Ja t) ln env=pure Jd:=by
 induction x using Expr.casesOn with
 |ListComp a b c d=>rcases t with⟨⟩<;>first|rfl|exact tf ht
 |SetComp=>exact ft h
 |DictComp=>exact ft h
 |_=>rfl
theorem qg(h:xk x=12):JR x Jb ln env=pure Jd:=by
 obtain⟨f,a,k,p,rfl⟩:=h▸xinv x;rfl
section
variable{sc:Jk}{e:E}{v:Jl}{p:Pos}
theorem vC(hx:xk v=12)(O:EvOK C G n sc e v):StK C G n sc (.expr e) (.Expr v p):=λ{env L A l σ s Q X} I w=>by
 refine wpAny_Expr_any (YI (O I.toAt w) (λv W hv=> ?_) λo0 o0 x=>XP.stmt I.ev I.ak x) ?_<|qg hx
 ·obtain⟨p,m,N,Y,h,T,B⟩:=hv;exact⟨.next,L,m,rfl,I.ev.step h,Y,h.own,T,I.ak.step h,B⟩
 ·simp[interactive,I.ev.fn]
theorem yO(O:EvOK C G n sc e v):StK C G n sc (.ret e) (.Return (Ja v) p):=λ{env L A l σ s Q X} I w=>by
 refine wpAny_Return_some (YI (O I.toAt w) (λv W hv=> ?_) λo0 o0 x=>XP.stmt I.ev I.ak x);obtain⟨p,m,N,Y,h,T,B⟩:=hv;exact⟨.ret p,L,m,⟨v,rfl,N⟩,I.ev.step h,Y,h.own,T,I.ak.step h,B⟩
theorem AtS.step{W:Je}(I:AtS C n sc env L A l σ s)(st:Step none1 σ s.heap σ1 W.heap)(m:Sim C σ1 W.heap):AtS C n sc env L A l σ1 W:=⟨I.toAt.step st m,I.tf⟩
theorem StsK.after{W:Je}(h:StsK C G n sc t xs)(I:AtS C n sc env j A l σ1 W)(w:wss G (aO C n) (aO C.un n) t j σ1 Q X)(st:Step (ownE env) σ s.heap σ1 W.heap)(r:Rest s W):
  Jh (Mo C) A (execs xs env) (SP C n A l env σ s Q) (SX C n A l env σ s X) W:=YI (h I w) (λo0 o0 x=>SP.from st r x) λo0 o0 x=>SX.from st r x
theorem AN{y z:List Jo}(W:TsOK C G n sc e v)(R:StsK C G n sc b y)(d:StsK C G n sc o z):StK C G n sc (.if_ e b o) (.If v y z p):=λ{env L A l σ s Q X} I w=>by
 refine wpAny_If (YI (W (K:=λT m=>if T then wss G (aO C n) (aO C.un n) b L m Q X else wss G (aO C n) (aO C.un n) o L m Q X) I.toAt w) (λT O h=> ?_) λo0 o0 x=>XP.stmt I.ev I.ak x);obtain⟨m,c,t,r,w⟩:=h
 induction T with
 |true=>exact R.after (I.step t c) w t.own r
 |false=>exact d.after (I.step t c) w t.own r
theorem vD:StsK C G n sc [] []:=λI w=>JK ⟨.next,_,_,rfl,I.ev,I.m,.refl _ _ _,⟨rfl,rfl⟩,I.ak,w⟩
theorem uB(H:StK C G n sc a x)(z:StsK C G n sc r xs):StsK C G n sc (a::r) (x::xs):=λ{env L A l σ s Q X} I w=>by
 refine J4 (YI (H I w) (λf O W=> ?_) λo0 o0 x=>x);obtain⟨fl,j,T,h,m,c,t,B,k,w⟩:=W
 induction fl with
 |next=>
  cases (show f= .next from h);exact z.after ⟨⟨I.sr,m,c,k⟩,I.tf⟩ w t B
 |ret p=>
  obtain⟨v,rfl,hv⟩:=h;exact⟨.ret p,j,T,⟨v,rfl,hv⟩,m,c,t,B,k,w⟩
end
end
section
end
section
variable{C:Cx}{σ:PH}{h:Ji}
mutual
theorem iK:∀ (p:PV) (v:Jf),VR C.un σ h p v=VR C σ h p v
 | .none=>λv=>rfl
 | .bool _=>λv=>rfl
 | .int _=>λv=>rfl
 | .str _=>λv=>rfl
 | .ref _=>λv=>rfl
 | .scr l=>λv=>rfl
 | .tup l=>λv=>propext ⟨λz=>by obtain⟨a,n,vs,e,e2,X,u⟩:=z;exact⟨a,n,vs,e,e2,X,(hA l _).mp u⟩,λz=>by obtain⟨a,n,vs,e,e2,X,u⟩:=z;exact⟨a,n,vs,e,e2,X,(hA l _).mpr u⟩⟩
theorem hA:∀ (l:List PV) (vs:List Jf),VRs C.un σ h l vs=VRs C σ h l vs
 |[]=>λvs=>rfl
 |p::ps=>λvs=>propext ⟨λz=>by obtain⟨v,r,e,e2,X⟩:=z;exact⟨v,r,e,(iK p _).mp e2,(hA ps _).mp X⟩,λz=>by obtain⟨v,r,e,e2,X⟩:=z;exact⟨v,r,e,(iK p _).mpr e2,(hA ps _).mpr X⟩⟩
end
theorem xP(p:PO)(o:Jp):OR C.un σ h p o=OR C σ h p o:=by
 induction p with
 |dict L l=>exact propext ⟨λM=>by obtain⟨U,s,P,x,d,e,k,nd,E,v⟩:=M;exact⟨U,s,P,x,d,e,k,nd,λy W=>by obtain⟨a,b,c,d,e⟩:=E y W;exact⟨a,b,c,d,e⟩,(hA _ _).mp v⟩,
   λM=>by obtain⟨U,s,P,x,d,e,k,nd,E,v⟩:=M;exact⟨U,s,P,x,d,e,k,nd,λy W=>by obtain⟨a,b,c,d,e⟩:=E y W;exact⟨a,b,c,d,e⟩,(hA _ _).mpr v⟩⟩
 |fd c V=>exact propext ⟨λM=>by obtain⟨U,s,e,k,v,z⟩:=M;exact⟨U,s,e,k,λi f p N Y=>(v i f p N Y).imp λo0 q=>⟨q.1,(iK _ _).mp q.2⟩,z⟩,λM=>by obtain⟨U,s,e,k,v,z⟩:=M;exact⟨U,s,e,k,λi f p N Y=>(v i f p N Y).imp λo0 q=>⟨q.1,(iK _ _).mpr q.2⟩,z⟩⟩
 |list l=>exact propext ⟨λM=>by obtain⟨w,n,e,r⟩:=M;exact⟨w,n,e,(hA _ _).mp r⟩,λM=>by obtain⟨w,n,e,r⟩:=M;exact⟨w,n,e,(hA _ _).mpr r⟩⟩
 |_=>rfl
end
section
variable{C:Cx}{G:Gx}{mg mb:Jq->Option Jf}{σ:PH}{h:Ji}{env:Js}{ρ:Rho}{n:Nat}{A:Jj}{l:List Js}
theorem Sim.un(m:Sim C σ h):Sim C.un σ h:=⟨m.base,m.new,λa o e=>by simpa only[xP] using m.objs a o e,m.rich⟩
theorem Sim.re(m:Sim C.un σ h):Sim C σ h:=⟨m.base,m.new,λa o e=>by simpa only[xP] using m.objs a o e,m.rich⟩
theorem EnvR.un(x:EnvR C env ρ σ h):EnvR C.un env ρ σ h:=⟨x.fn,x.glob,x.blt,by simpa only[iK] using x.ns,by simpa only[iK] using x.cell,x.newL,x.baseL,x.baseC,x.newC,x.apart,x.hasC⟩
theorem EnvR.re(x:EnvR C.un env ρ σ h):EnvR C env ρ σ h:=⟨x.fn,x.glob,x.blt,by simpa only[iK] using x.ns,by simpa only[iK] using x.cell,x.newL,x.baseL,x.baseC,x.newC,x.apart,x.hasC⟩
theorem AOK.un(x:AOK C n A l σ h):AOK C.un n (A.mark e) l σ h:=⟨x.depth,x.units,x.stack,x.frs,(λh=>h.elim)⟩
theorem AOK.re{S:Ji}(x:AOK C.un n (A.mark e) l σ' S)(y:AOK C n A l σ h):AOK C n A l σ' S:=⟨x.depth,x.units,x.stack,x.frs,y.calm⟩
theorem GOK.un(g:GOK C G mg mb):GOK C.un G.un mg mb:=⟨g.g,g.b,g.nolimit,g.blt,λx p e=>by simpa only[iK] using g.glob x p e,g.full,(λh=>by exact ft h),g.fv,g.fn⟩
end
section
variable{C:Cx}{G:Gx}{mg mb:Jq->Option Jf}{n:Nat}
theorem nM{s:Je}{T:Rho}
  {tst:Rho->PH->(Bool->PH->Prop)->Prop}{el:Rho->PH->Post->Prop}
  (Y:EnvR C env T σ s.heap)(k:AOK C n A l σ s.heap)(M:ScR sc env)(ok:eW sc scope=Jc)(ow:ownOk tg scope=Jc)(ht:mTg scope tg t=Jc)(hx:mTg sc (.name x) (.Name (Qb x) m)=Jc)
  (hs:∀x,JQ iter env x=pure x)
  (w:jv C A env t iter σ s (λxs chk σ1=>gb chk tg T tst el xs [] σ1 λu r=>wnew (.list u) r λv σ3=>Q .next (T.put x v) σ3) (SX C n A l env σ s X))
  (P:∀i,ScR scope i->∀ρ' σ' s' H,EnvR C i ρ' σ' s'.heap->Sim C σ' s'.heap->AOK C n A l σ' s'.heap->tst ρ' σ' H->∀E,Jh (Mo C) A (tests K i) (λok W=>∃j,A4 (Sim C j W.heap) (Step none1 σ' s'.heap j W.heap) (Rest s' W)<|H ok j) E s')
  (O:∀i,ScR scope i->∀ρ' σ' s' Q,EnvR C i ρ' σ' s'.heap->Sim C σ' s'.heap->AOK C n A l σ' s'.heap->el ρ' σ' Q->∀E,Jh (Mo C) A (Jw g i) (VP C none1 σ' s' Q) E s'):
  Jh (Mo C) A (comprehension (.ListComp g [⟨t,iter,K,0⟩] scope pos) scope env J (newList []) Jd (Jw iter env)<|Ja (assign (.Name (Qb x) m) env)) (λo0 s'=>SP C n A l env σ s Q .next s') (SX C n A l env σ s X) s:=by
 refine qy (Q:=λv σ3=>Q .next (T.put x v) σ3) Y k M ok ow ht hs w P O λD σ3 s3 L m3 a r3 N h2 U ⟨z,hn⟩ hq=> ?_;show Jh _ A (assign (.Name (Qb x) m) env<|.ref D) _ _ _;refine iB (tg:= .name x) (ρ':=T.put x<|.ref D) (λq=>ft q) hx (Y.step a) m3 (pE M hx) (p:= .ref D) rfl rfl λS b Z r4=> ?_;have h:¬ownE env L:=λq=>by obtain⟨o,e,o0⟩:=nz Y q;exact ns<|N.symm.trans e
 have V:S.heap.Ns L z:=Ns.like hn λo e=>⟨o,b.mv L o (λf=>h<|jd f) e,.refl o⟩
 refine⟨z,V,λd B=> ?_⟩;have mv:Mv (· =L) S.heap d:=λc o f e=>B.extBut c o f e;obtain⟨o,es,ep,ho,I,o0⟩:=V;have R:Fok C σ3 S.heap (· =L):=λc f=>by
  have f:c=L:=f;subst f;exact⟨U,h2,iF ho<|d7 I⟩
 refine⟨.next,T.put x (.ref D),σ3,rfl,Z.mv mv R (λq=>h (.inl (q:env.locals=L).symm)) (λy c hc q=>h (.inr ⟨y,(q:c=L)▸hc⟩)),b.sim.mv mv R,
  (b.step Y a.own).mv mv (λc f=>by have f:c=L:=f;subst f;exact N),r3.trans r4,((k.step a).asg b).mv mv (λen he F hf q=> ?_),hq⟩
 obtain⟨o0,L',o',o0,o0,e1,o0,o0,e4,o0⟩:=k.frs en he;obtain rfl:=sj<|hf.symm.trans e1;have q:F=L:=q;subst q;exact ns<|N.symm.trans e4
theorem jQ(g:GOK C G mg mb){K:List PV->(PH->Prop)->PH->Prop}
  (h:G.calm=Jc)(hi:ItOK C G n sc tg k es i)(W:mTg c tg t=Jc)(I:At C n sc env L A l σ s)
  (w:wes G (aO C n) es L σ (λvs σ1=>src k vs σ1 λxs chk=>xs.length<=lim/\K xs chk σ1) λx σ1=>X x L σ1):jv C A env t i σ s K (SX C n A l env σ s X):=λR b=>
 YI (kX g h hi W I w R b) (λo0 o0 x=>YI x (λo0 o0 y=>y) λo0 o0 y=>XP.stmt I.ev I.ak y) λo0 o0 y=>XP.stmt I.ev I.ak y
theorem lB{pos:Pos}{Q:Flow->Je->Prop}{Er:Jf->Je->Prop}(E:JR v (Ja t) pos.line env=pure Jd)(w:swappedStores [t] v env=pure Jb)
  (W:kz t=Jc)(h:Jh (Mo C) A (Jw v env) (λx s₁=>Jh (Mo C) A (assign t env x) (λo0=>Q .next) Er s₁) Er s):Jh (Mo C) A (exec (.Assign [t] v pos) env) Q Er s:=by
 refine wpAny_Assign_stores (YI h (λx s₁ V=> ?_) λo0 o0 x=>x) E w;have:(JM [t] env).map (·.2)=[assign t env]:=by rcases t with⟨⟩<;>first|rfl|exact ft W
 rw[this];exact V
theorem o9(h:xk v≠7):swappedStores [.Tuple es k p] v env=pure Jb:=by
 induction v using Expr.casesOn with
 |Tuple a b c=>exact absurd rfl h
 |_=>rfl
section
variable{sc:Jk}{e:E}{v:Jl}{pos:Pos}
theorem yj(g:GOK C G mg mb)(hx:mTg sc (.tup xs) (.Tuple es a b)=Jc)(hz:kz v=Jc)(o:xk v≠7)(O:EvOK C G n sc e v):StK C G n sc (.assign (.tup xs) e) (.Assign [.Tuple es a b] v pos):=λ{F L A l W s Q X} I w=>by
 refine lB (g9 hz rfl) (o9 o) rfl (YI (O I.toAt w.2) (λJ q hv=> ?_) λo0 o0 x=>XP.stmt I.ev I.ak x);obtain⟨p,T,h,m,t,r,f⟩:=hv;obtain⟨z,R,f⟩:=pU f;exact oQ (λo0=>I.ak.calm<|g.calm w.1) I.sr hx I.ev I.ak t r m h R f
theorem oG{R:Je->Prop}{Q:Flow->Je->Prop}{Er:Jf->Je->Prop}(hQ:∀s',R s'->Q .next s')
  (hs:JR (.ListComp elt [⟨t,iter,ifs,0⟩] scope p) (Ja<|.Name y pz) pos.line env=pure Jc)
  (h:Jh (Mo C) A (comprehension (.ListComp elt [⟨t,iter,ifs,0⟩] scope p) scope env (firstIterPos [⟨t,iter,ifs,0⟩] p) (newList []) Jd (Jw iter env)<|Ja (assign (.Name y pz) env)) (λo0 s'=>R s') Er s):
  Jh (Mo C) A (exec (.Assign [.Name y pz] (.ListComp elt [⟨t,iter,ifs,0⟩] scope p) pos) env) Q Er s:=by
 rw[exec_Assign_Name_used _ _ _ _ hs];refine YG<|YK (YG ?_);show Jh _ A (do let _<-comprehension (.ListComp elt [⟨t,iter,ifs,0⟩] scope p) scope env _ (newList []) Jd (Jw iter env) (Ja<|assign (.Name y pz) env)) _ _ s;exact YG<|YI h (λo0 s' hq=>YH<|YH (hQ s' hq)) λo0 o0 e=>e
theorem E.comp_of{P:E->Prop}{e:E}(h:e.isC=Jc)(k:∀l tg k i,P (.comp l tg k i))(A:∀l tg k i c,P (.compIf l tg k i c)):P e:=by
 induction e using E.casesOn with
 |comp l tg j i=>exact k l tg j i
 |compIf l tg j i c=>exact A l tg j i c
 |_=>exact ft h
theorem vB(T:Todo C G n)(g:GOK C G mg mb)(hx:mTg sc (.name y) (.Name (Qb y) pz)=Jc)(hz:kz v=Jc)(hc:xk v=11->e.isC=Jc)(hm:mE sc e v=Jc):StK C G n sc (.assign (.name y) e) (.Assign [.Name (Qb y) pz] v pos):=λ{env ρ A l σ s Q X} I w=>by
 rcases p6 (env:=env) (y:=Qb y) (py:=pz) (ln:=pos.line) hz with hs|⟨hs,hl⟩
 ·refine lB hs rfl rfl (YI ((bM T g e sc v hm).1 I.toAt w) (λv1 s1 hv=> ?_) λo0 o0 x=>XP.stmt I.ev I.ak x);obtain⟨p1,σ1,hv1,m1,st1,r1,w1⟩:=hv;exact oQ (tg:= .name y) (λq=>ft q) I.sr hx I.ev I.ak st1 r1 m1 hv1 rfl w1
 ·revert hm w
  refine E.comp_of (P:=λe=>mE sc e v=Jc->ws G (aO C n) (aO C.un n) (.assign (.name y) e) ρ σ Q X->Jh (Mo C) A (exec (.Assign [.Name (Qb y) pz] v pos) env) (SP C n A l env σ s Q) (SX C n A l env σ s X) s) (hc hl) (λelt tg k it hm w=> ?_) λelt tg k it c hm w=> ?_
  ·refine uJ (P:=λv=>JR v (Ja<|.Name (Qb y) pz) pos.line env=pure Jc->Jh (Mo C) A (exec (.Assign [.Name (Qb y) pz] v pos) env) (SP C n A l env σ s Q) (SX C n A l env σ s X) s) hm (λe t i sc' p h1 h2 h3 h4 h5 hs=>oG (λo0 q=>q) hs ?_) hs;have h1:=ItOK.of h1<|c8 T g it sc;exact nM (tst:=λo0 σ K=>K Jc σ) (el:=λρ' σ K=>we G (aO C n) elt ρ' σ K λo0 o0=>False) I.ev I.ak I.sr h4 h5 h2 hx (h1.fold env) (jQ g w.1 h1 h2 I.toAt w.2) tW<|ru (bM T g elt _ _ h3).1
  ·refine oC (P:=λv=>JR v (Ja<|.Name (Qb y) pz) pos.line env=pure Jc->Jh (Mo C) A (exec (.Assign [.Name (Qb y) pz] v pos) env) (SP C n A l env σ s Q) (SX C n A l env σ s X) s) hm (λe t i z sc' p h1 h2 h3 h6 h4 h5 hs=>oG (λo0 q=>q) hs ?_) hs;have h1:=ItOK.of h1<|c8 T g it sc;exact nM (tst:=λρ' σ K=>we G (aO C n) c ρ' σ (λv σ'=>cV (λb=>K b σ') v) λo0 o0=>False) (el:=λρ' σ K=>we G (aO C n) elt ρ' σ K λo0 o0=>False) I.ev I.ak I.sr h4 h5 h2 hx (h1.fold env) (jQ g w.1 h1 h2 I.toAt w.2) (uv (bM T g c _ _ h6).2)<|ru (bM T g elt _ _ h3).1
theorem xS(hz:kz v=Jc)(ho:EvOK C G n sc o u)(hi:EvOK C G n sc i y)(he:EvOK C G n sc e v):StK C G n sc (.setIdx o i e) (.Assign [.Subscript u y p] v pos):=λ{aa z A l σ s Q X} I w=>by
 refine wpAny_Assign_Subscript (YI (he I.toAt w) (λR s1 hv=> ?_) λo0 o0 x=>XP.stmt I.ev I.ak x)<|g9 hz rfl;obtain⟨r,ab,K,m1,P,r1,w1⟩:=hv;refine YI (EOK.seq (ho (I.toAt.step P m1) w1) P r1 λv2 s2 p2 ac F m2 W m r2 w2=> ?_) (λo0 o0 x=>x) λo0 o0 x=>XP.stmt I.ev I.ak x;refine YI (EOK.seq (hi (I.toAt.step W m2) w2) W r2 λv3 c p3 V d J q T r3 B=> ?_) (λo0 o0 x=>x) λo0 o0 x=>XP.stmt I.ev I.ak x
 induction p2 using PV.casesOn with
 |ref a=>
  rw[show v2= .ref a from F];have h:=(K.step m).step T
  rcases (show onDO (λks l=>l.length<lim/\oK (λk=>Q .next z<|V.set a (kset ks l k r)) (keyOf p3)) (V a)\/_ from B) with B|B
  ·obtain⟨ks,O,L,N,B⟩:=kH B;obtain⟨kk,g,Y⟩:=iQ B;obtain⟨xs,D⟩:=J.dict L;obtain⟨kb,rfl,f⟩:=kO g d;have H:xs.length<=JJ:=by
    have h1:=D.v.length;rw[Qd] at h1;rw[h1,JU];exact Qn (Kv N)<|by decide
   refine wpAny_setItem_heap (hsz:=H) (iu I.ak.u100) f.is D.of λh' hd hs=> ?_;obtain⟨u1,Z⟩:=D.set (p:=r) (v:=R) J L f h hd hs;have t:=q.trans Z;exact⟨.next,z,_,rfl,I.ev.step t,u1,t.own,r3.trans ⟨rfl,rfl⟩,I.ak.step t,Y⟩
  obtain⟨O,L,B⟩:=gF (show onO (λl=>onInt (λk=>oNat (λj=>l.length<=lim/\Q .next z (V.set a<|.list (l.set j r)))<|place l.length k) p3) (V a) from B);obtain⟨k,rfl,B⟩:=dw B;obtain⟨j,hj,B,Y⟩:=gA B;obtain⟨tk,rfl⟩:=d;obtain⟨vs,k',g1,g2⟩:=J.list L;have hn:vs.size=O.length:=g2.length;refine lK g1 (by rw[hn];exact Qn B<|by decide) (by rw[hn];exact hj) ?_;have M:KM a c.heap (c.heap.update a (Obj.mapSeq (·.setIfInBounds j R))):=KM.update ..;have b:∃U,(c.heap.update a (Obj.mapSeq (·.setIfInBounds j R))).get? a=Ja (lstO (vs.setIfInBounds j R) U):=by
   refine⟨?_,?_⟩
   rotate_left
   ·rw[QY _ g1 rfl];simp only[Obj.mapSeq,lstO];rfl
  obtain⟨U,b⟩:=b;obtain⟨u1,Z⟩:=Sim.upd (S:=none1) (o':= .list (O.set j r)) J L rfl M b ⟨_,U,rfl,by rw[Array.toList_setIfInBounds];exact g2.set j h⟩;have t:=q.trans Z;exact⟨.next,z,_,rfl,I.ev.step t,u1,t.own,r3.trans ⟨rfl,rfl⟩,I.ak.step t,Y⟩
 |_=>exact B.elim
structure ForAt(C:Cx)(St:Nat->PH->Ji->Prop)(env:Js)(n:Nat)(A:Jj)(l:List Js)(go:List PV->Rho->PH->Prop)(xs:List PV)(σ:PH)(s:Je)(i:Nat)(ρ':Rho)(σ':PH)(s':Je):Prop where
 le:i<=xs.length
 st:St i σ' s'.heap
 m:Sim C σ' s'.heap
 ev:EnvR C env ρ' σ' s'.heap
 step:Step (ownE env) σ s.heap σ' s'.heap
 rest:Rest s s'
 ak:AOK C n A l σ' s'.heap
 go:go (xs.drop i) ρ' σ'
theorem zf(g:GOK C G mg mb)(h1:mTg sc tg t=Jc)(h2:ItOK C G n sc tg k es i)(R:StsK C G n sc b y):StK C G n sc (.for_ tg k es b) (.For t i y [] pos):=λ{F ρ A l σ s Q X} I w=>by
 refine wpAny_For ?_<|h2.fold F;refine jQ (t:=t) g w.1 h2 h1 I.toAt w.2 _ λII fp St ap s1 H ak r O m1 P r1 j au h=> ?_;have M:∀b∈fp,¬ownE F b:=λb R q=>by obtain⟨o,e,o0⟩:=nz I.ev q;exact ns<|((j b R).1).symm.trans e
 have aa:∀d∈l,∀L,d.frame=Ja L->L∉fp:=λd U L hf q=>by
  obtain⟨o0,L',o',o0,o0,e1,o0,o0,e4,o0⟩:=I.ak.frs d U;obtain rfl:=sj<|hf.symm.trans e1;exact ns<|((j L q).1).symm.trans e4
 refine codeAny_forLoop_any (λkk s'=>X3 λi z T=>kk=H.length-i+1/\ForAt C St F n A l (forGo ak tg (λρ σ K=>wss G (aO C n) (aO C.un n) b ρ σ K λo0 o0 o0=>False) Q) H σ s i z T s') ?_ _
  ⟨0,ρ,ap,rfl,⟨QT _,O,m1,I.ev.step P,P.own,r1,I.ak.step P,h⟩⟩
 clear O m1 h;intro kk s' hI;obtain⟨i,z,T,rfl,J⟩:=hI;have O:=J.st;have m':=J.m;have D:=J.ev;have W:=J.step;have r':=J.rest;have a:=J.ak;have h:=J.go;have hi:=J.le;clear J;have fo:=r.fok O;by_cases N:i<H.length
 ·have hx:H[i]? =Ja H[i]:=Qi N;rw[WQ N] at h;obtain⟨ab,h⟩:=h;obtain⟨av,as,h⟩:=pU h;refine r.item hx m' ab O λv s1 ac=> ?_;refine ac _ _ λs2 hv m2 m af r2=> ?_
  ·have aj:=D.mv m fo (λq=>M _ q<|.inl rfl) λy c Z q=>M _ q<|.inr ⟨y,Z⟩;have al:=W.mv m (λc Z=>(j c Z).1);have ar:=a.mv m (λd U L hf q=>aa d U L hf q);refine iB (λo0=>r.hdn) h1 aj m2 (pE I.sr h1) hv as λs3 a3 ao r3=> ?_;have ai:=a3.step I.ev al;have am:=ar.asg a3;have ah:=r.mv af a3.mv a3.fok λb R q=>M b R<|jd q;refine YI (R ⟨⟨I.sr,ao,a3.sim,am⟩,I.tf⟩ h) (λf s4 h4=> ?_) λo0 o0 x=>SX.none x;obtain⟨fl,Y,ad,f4,ae,m4,V,r4,B,h⟩:=h4;have u:=r.step ah V M
   induction fl with
   |next=>
    simp only[FR] at f4;subst f4;exact⟨H.length-(i+1)+1,uq N,i+1,Y,ad,rfl,⟨N,u,m4,ae,ai.trans V,((r'.trans r2).trans r3).trans r4,B,h⟩⟩
   |ret p=>
    obtain⟨v4,rfl,an⟩:=f4;exact⟨.ret p,Y,ad,⟨v4,rfl,an⟩,ae,m4,ai.trans V,((r'.trans r2).trans r3).trans r4,B,h⟩
 ·have aq:i=H.length:=Yw hi<|Kc.mp N;subst aq;rw[List.drop_length] at h;refine r.done m' h.1 O λs2 m2 m r2=> ?_;refine JK ?_;exact⟨.next,z,T,rfl,D.mv m fo (λq=>M _ q<|.inl rfl)<|λy c Z q=>M _ q<|.inr ⟨y,Z⟩,m2,W.mv m<|λc Z=>(j c Z).1,r'.trans r2,a.mv m<|λd U L hf q=>aa d U L hf q,h.2⟩
end
end
section
variable{mg mb:Jq->Option Jf}{n:Nat}
def WS(n:Nat)(mg mb:Jq->Option Jf)(st:S):Prop:=∀ (C:Cx) (G:Gx),Todo C G n->Todo2 C G n->Todo C.un G.un n->Todo2 C.un G.un n->GOK C G mg mb->∀ (sc:Jk) (x:Jo),mS sc st x=Jc->StK C G n sc st x
def WSs(n:Nat)(mg mb:Jq->Option Jf)(s:List S):Prop:=∀ (C:Cx) (G:Gx),Todo C G n->Todo2 C G n->Todo C.un G.un n->Todo2 C.un G.un n->GOK C G mg mb->∀ (sc:Jk) (x:List Jo),mSs sc s x=Jc->StsK C G n sc s x
theorem lor(h:(!a||b)=Jc)(T:a=Jc):b=Jc:=by rw[T] at h;exact h
theorem bne7(h:(!(xk x==k))=Jc):xk x≠k:=λq=>by rw[q,beq_self_eq_true] at h;exact ft h
mutual
theorem z7:∀st:S,WS n mg mb st
 | .assign (.name y) e=>λC G T Q X u g sc o0 h=>zd (P:=StK C G n sc (.assign (.name y) e)) h λo0 o0 o0 N Y=>vB T g N (and2 (and2 Y).1).1 (λq=>lor (and2 (and2 Y).1).2 (beq_iff_eq.mpr q)) (and2 Y).2
 | .assign (.tup xs) e=>λC G T Q X u g sc o0 h=>A2 (P:=StK C G n sc (.assign (.tup xs) e)) h λo0 o0 o0 o0 o0 N Y=>yj g N (and2 (and2 Y).1).1 (bne7 (and2 (and2 Y).1).2) (bM T g e _ _ (and2 Y).2).1
 | .setIdx o i e=>λC G T Q X u g sc o0 h=>oZ (P:=StK C G n sc (.setIdx o i e)) h λt v p N Y=>qQ (P:=λt=>StK C G n sc (.setIdx o i e) (.Assign [t] v p)) N λo0 o0 o0 J O=>xS (and2 Y).1 (bM T g o _ _ J).1 (bM T g i _ _ O).1 (bM T g e _ _ (and2 Y).2).1
 | .expr e=>λC G T Q X u g sc o0 h=>zw (P:=StK C G n sc (.expr e)) h λo0 o0 h=>vC (Ub (and2 h).1) (bM T g e _ _ (and2 h).2).1
 | .ret e=>λC G T Q X u g sc o0 h=>AZ (P:=StK C G n sc (.ret e)) h λo0 o0 h=>yO (bM T g e _ _ h).1
 | .if_ t b o=>λC G T Q X u g sc o0 h=>Bn (P:=StK C G n sc (.if_ t b o)) h λo0 o0 o0 o0 N Y J=>AN (bM T g t _ _ N).2 (hX b C G T Q X u g _ _ Y) (hX o C G T Q X u g _ _ J)
 | .for_ tg k V b=>λC G T Q X u g sc o0 h=>Ar (P:=StK C G n sc (.for_ tg k V b)) h λo0 o0 o0 o0 N Y J=>zf g N (.of Y<|c8 T g V _)<|hX b C G T Q X u g _ _ J
 | .while_ t b=>λC G T Q X u g sc o0 h=>xn (P:=StK C G n sc (.while_ t b)) h λo0 o0 o0 N Y=>Q.while_ (bM T g t _ _ N).2 (hX b C G T Q X u g _ _ Y)
 | .raise c args=>λC G T Q X u g sc o0 h=>v5 (P:=StK C G n sc (.raise c args)) h λv q h=>t5 (P:=λv=>StK C G n sc (.raise c args) (.Raise (Ja v) Jb q)) h λo0 o0 o0 N Y J=>λI w=>Q.raise (g.full w.1.1) (g.calm w.1.2.1) N Y (Y8 (and2 J).2) (c8 T g args _ _ (and2 J).1) I w
 | .try1 b c h=>λC G T Q X u g sc o0 m=>xV (P:=StK C G n sc (.try1 b c h)) m λo0 o0 o0 o0 o0 o0 N Y O=>λI w=>Q.try1 (g.full w.1.1) (g.calm w.1.2.1) Y (hX b C G T Q X u g _ _ N) (hX h _ _ X u X u g.un _ _ O) I w
theorem hX:∀s:List S,WSs n mg mb s
 |[]=>λC G T Q X u g o0 xs h=>by
  rcases xs with o0|⟨o0,o0⟩
  ·exact vD
  ·exact ft h
 |a::r=>λC G T Q X u g o0 xs h=>by
  rcases xs with o0|⟨x,xs⟩
  ·exact ft h
  ·exact uB (z7 a C G T Q X u g _ _ (and2 h).1)<|hX r C G T Q X u g _ _ (and2 h).2
end
end
section
variable{M:Model}{A:Jj}{E:Jf->Je->Prop}{s:Je}
noncomputable def frsOf(l:List Js):List Jg:=l.filterMap (·.frame)
structure Noted(l:List Js)(e:Jg)(oe:Jp)(vs:Array Jf)(fo:Option Jg)(F:Jg->Prop)(h h':Ji):Prop where
 same:∀b o,¬F b->b∉frsOf l->h.get? b=Ja o->h'.get? b=Ja o
 slots:∀b o,¬F b->h.get? b=Ja o->∃sl,h'.get? b=Ja {o with slots:=sl}
 exc:∃T oT ts o' vs',(h.get? T=Jb\/(F T/\vs[1]? =Ja (.ref T)))/\T≠e/\h'.get? e=Ja o'/\o'.cls=oe.cls/\o'.dict=oe.dict/\o'.data= .fields vs'/\vs'[1]? =Ja (.ref T)/\vs'[2]? =vs[2]? /\
  h'.get? T=Ja oT/\oT.data= .fields ts/\ts[3]? =Ja (fo.elim Value.none λf=>Jx f)
 alive:∀b,F b->(∃o,h.get? b=Ja o)->∃o,h'.get? b=Ja o
theorem rL{o:Jp}(f:Array Jf->Array Jf):(o.mapFields f).dict=o.dict:=by
 obtain⟨c,d,t,l⟩:=o;rcases t with⟨⟩<;>rfl
theorem mf{g o:Jp}{vs t:Array Jf}{fo:Option Jg}{Q:Unit->Je->Prop}(O:s.heap.get? e=Ja g)(v:g.data= .fields vs)(N:vs[1]? =Ja (.ref T))(Y:s.heap.get? T=Ja o)(d:o.data= .fields t)(J:3<t.size)
  (h:Q () {s with heap:=s.heap.update T (Obj.mapFields (·.setIfInBounds 3 (fo.elim Value.none λf=>Jx f)))}):Jh M A (JS (.ref e) fo) Q E s:=by
 unfold JS;refine YG<|YL O v N ?_;rw[Ua (show(Value.ref T !=Value.none)=Jc from by simp)];exact JF Y d J h
theorem o7{env:Js}{oe:Jp}{vs:Array Jf}{Q:Unit->Je->Prop}
  (hfr:A.frames=Ja (env::outer))(hl:s.heap.FunFrames base (env::outer))(hf:env.frame=Ja L)(he:s.heap.get? e=Ja oe)(hd:oe.data= .fields vs)(hsz:1<vs.size)
  (hK:∀s' o' vs' T,s'.heap.get? e=Ja o'->o'.data= .fields vs'->vs'[1]? =Ja (.ref T)->Jh M A (JS (.ref e) fo) Q E s'->Jh M A K Q E s')
  (h:∀h',Noted (env::outer) e oe vs fo (· =e) s.heap h'->Q () {s with heap:=h'}):
  Jh M A (do let a<-frameOf env;let pl<-entryPlaceOf L hadNext;let b<-EntryCells.newEntry head a .none (Jx L) .none pl;setField (.ref e) 1 b) (λo0 s'=>Jh M A K Q E s') E s:=by
 have hene:e∉frsOf (env::outer):=λhm=>by
  obtain⟨o0,o,ho,hnf⟩:=hl.mem hm;rw[he] at ho;injection ho with ho;subst ho;exact hnf vs hd
 refine YG (wpAny_frameOf_fun hfr hl hf λh1 hs1=> ?_);refine YG (wpAny_entryPlaceOf λpl hpl=> ?_);unfold EntryCells.newEntry newFields;refine YG<|wpAny_newObj_type ?_ (hpl.sizeOk5 _ _ _ _ _);generalize hob:({cls:= .type "traceback",dict:=Jb,data:= .fields ([head,.ref L,.none,Jx L,.none]++(if pl.isEmpty then List.replicate 6 Value.none else pl)).toArray}:Jp)=ob;have hod:ob.data= .fields ([head,.ref L,.none,Jx L,.none]++(if pl.isEmpty then List.replicate 6 Value.none else pl)).toArray:=by rw[<-hob]
 have hfb:ob.isFreed=Jd:=by rw[<-hob];rfl
 have he1:h1.get? e=Ja oe:=(hs1.2.1 e hene).trans he;have he2:=Qz (h:=h1) ob he1;refine JF he2 hd hsz ?_;have hTe:h1.objs.size≠e:=WH<|QO he1;have hd3:=Obj.data_mapFields hd (·.setIfInBounds 1 (Value.ref h1.objs.size));have he3:=QY (Obj.mapFields (·.setIfInBounds 1 (Value.ref h1.objs.size))) he2<|Obj.isFreed_of_fields hd3;have hT3:=(KH (h1.push ob) (Obj.mapFields (·.setIfInBounds 1 (Value.ref h1.objs.size)))<|Ne.symm hTe).trans (QK h1 hfb);have h3s:3<(([head,.ref L,.none,Jx L,.none]++(if pl.isEmpty then List.replicate 6 Value.none else pl)).toArray:Array Jf).size:=by
  simp only[List.size_toArray,QG,KU,Wv];exact zll (by decide)<|KF _ _
 have hv1:(vs.setIfInBounds 1<|Value.ref h1.objs.size)[1]? =Ja (.ref h1.objs.size):=by rw[Wb hsz]
 refine hK _ _ _ _ he3 hd3 hv1<|mf he3 hd3 hv1 hT3 hod h3s (h _ ?_);have hdT:=Obj.data_mapFields hod (·.setIfInBounds 3 (fo.elim Value.none λf=>Jx f));have keep:∀b o,b≠e->h1.get? b=Ja o->
   (((h1.push ob).update e (Obj.mapFields (·.setIfInBounds 1 (Value.ref h1.objs.size)))).update h1.objs.size
    (Obj.mapFields (·.setIfInBounds 3 (fo.elim Value.none λf=>Jx f)))).get? b=Ja o:=λb o hbe hb=>by
  have hbT:h1.objs.size≠b:=WH<|QO hb;rw[KH _ _ hbT,KH _ _ (Ne.symm hbe)];exact Qz _ hb
 have hee:(((h1.push ob).update e (Obj.mapFields (·.setIfInBounds 1 (Value.ref h1.objs.size)))).update h1.objs.size
    (Obj.mapFields (·.setIfInBounds 3 (fo.elim Value.none λf=>Jx f)))).get? e=Ja (oe.mapFields (·.setIfInBounds 1 (.ref h1.objs.size))):=by
  rw[KH _ _ hTe];exact he3
 refine⟨λb o hb hm e1=>keep b o hb ((hs1.2.1 b hm).trans e1),λb o hb e1=> ?_,⟨h1.objs.size,_,_,_,_,.inl ?_,hTe,hee,Obj.cls_mapFields _ _,rL _,hd3,hv1,?_,QY _ hT3 (Obj.isFreed_of_fields hdT),hdT,?_⟩,λb hb o0=>by
  have hb:b=e:=hb;subst hb;exact⟨_,hee⟩⟩
 ·obtain⟨sl,q⟩:=hs1.2.2 b o e1;exact⟨sl,keep b _ hb q⟩
 ·induction q:s.heap.get? h1.objs.size with
  |none=>rfl
  |some o=>obtain⟨sl,w⟩:=hs1.2.2 _ o q;exact absurd (QO w)<|KJ _
 ·rw[Array.getElem?_setIfInBounds_ne (by decide)]
 ·show(Array.setIfInBounds _ 3<|fo.elim Value.none λf=>Jx f)[3]? =Ja _;rw[Wb h3s]
theorem vU{env:Js}{oe:Jp}{Q:Unit->Je->Prop}
  (hfr:A.frames=Ja (env::outer))(hl:s.heap.FunFrames base (env::outer))(hf:env.frame=Ja L)(he:s.heap.get? e=Ja oe)(hd:oe.data= .fields vs)
  (hK:∀s' o' vs' T,s'.heap.get? e=Ja o'->o'.data= .fields vs'->vs'[1]? =Ja (.ref T)->Jh M A (JS (.ref e) fo) Q E s'->Jh M A K Q E s')
  (hv:vs[1]? =Ja .none\/∃T oT ts,vs[1]? =Ja (.ref T)/\T≠e/\s.heap.get? T=Ja oT/\oT.data= .fields ts/\(ts[3]? =Ja .none\/ts[3]? =Ja (Jx L)))
  (h:∀h',Noted (env::outer) e oe vs fo (λb=>b=e\/vs[1]? =Ja (.ref b)) s.heap h'->Q () {s with heap:=h'}):
  Jh M A (noteFrame (.ref e) env) (λo0 s'=>Jh M A K Q E s') E s:=by
 unfold noteFrame;simp only[hf]
 rcases hv with h1|⟨T,oT,ts,h1,hTe,hT,hdT,h3|h3⟩
 ·refine YG<|YL he hd h1 ?_;rw[Y9 (by decide)];refine o7 hfr hl hf he hd (KG.mp h1).1 hK λh' N=>h h' ⟨λb o hb=>N.same b o λq=>hb<|.inl q,λb o hb=>N.slots b o λq=>hb<|.inl q,?_,λb hb=> ?_⟩
  ·obtain⟨T',oT',ts',o',vs',q1,q2⟩:=N.exc;exact⟨T',oT',ts',o',vs',q1.imp id λz=>⟨.inl z.1,z.2⟩,q2⟩
  ·rcases hb with hb|hb
   ·exact N.alive b hb
   ·rw[h1] at hb;cases hb
 ·refine YG<|YL he hd h1 ?_;rw[Ua (show(Value.ref T !=Value.none)=Jc from by simp)];refine YG<|YL hT hdT h3 ?_;rw[Y9 (show ¬ ((Value.none==Jx L)=Jc) from by simp[Jx])];refine YG<|wpAny_setField hT hdT (KG.mp h3).1 ?_;have other:∀b,b≠T->(s.heap.update T (Obj.mapFields (·.setIfInBounds 3 Value.none))).get? b=s.heap.get? b:=λb hb=>KH _ _<|Ne.symm hb;have noRecord:∀b o,s.heap.get? b=Ja o->(∀vs,o.data≠ .fields vs)->b≠T:=λb o hb hnf q=>by
   rw[q,hT] at hb;injection hb with hb;subst hb;exact hnf ts hdT
  refine o7 hfr (hl.of_keeps λb o hb hnf=>⟨o,(other b<|noRecord b o hb hnf).trans hb,rfl⟩) hf ((other e<|Ne.symm hTe).trans he) hd (KG.mp h1).1 hK λh' N=>h h' ?_;have hTu:(s.heap.update T (Obj.mapFields (·.setIfInBounds 3 Value.none))).get? T=Ja (oT.mapFields (·.setIfInBounds 3 Value.none)):=QY _ hT<|Obj.isFreed_of_fields (Obj.data_mapFields hdT _);refine⟨λb o hb hm e1=>N.same b o (λq=>hb<|.inl q) hm<|(other b λq=>hb<|.inr (by rw[q];exact h1)).trans e1,λb o hb e1=>N.slots b o (λq=>hb<|.inl q)<|(other b λq=>hb<|.inr (by rw[q];exact h1)).trans e1,?_,λb hb ho=> ?_⟩
  ·obtain⟨T',oT',ts',o',vs',q1,q2⟩:=N.exc;refine⟨T',oT',ts',o',vs',.inl ?_,q2⟩
   rcases q1 with q1|q1
   ·rw[<-other T' λq=>by rw[q,hTu] at q1;exact sn q1];exact q1
   ·exact absurd q1.1 q2.1
  ·rcases hb with hb|hb
   ·exact N.alive b hb<|by subst hb;exact⟨_,(other b<|Ne.symm hTe).trans he⟩
   ·rw[h1] at hb;cases hb;obtain⟨sl,q⟩:=N.slots T _ hTe hTu;exact⟨_,q⟩
 ·refine YG<|YL he hd h1 ?_;rw[Ua (show(Value.ref T !=Value.none)=Jc from by simp)];refine YG<|YL hT hdT h3 ?_;rw[Ua (show((Jx L==Jx L)=Jc) from beq_self_eq_true _)];refine YH ?_;have h3s:=(KG.mp h3).1;refine hK _ _ _ _ he hd h1<|mf he hd h1 hT hdT h3s (h _ ?_);have hdT':=Obj.data_mapFields hdT (·.setIfInBounds 3 (fo.elim Value.none λf=>Jx f));have other:∀b,b≠T->(s.heap.update T (Obj.mapFields (·.setIfInBounds 3 (fo.elim Value.none λf=>Jx f)))).get? b=s.heap.get? b:=λb hb=>KH _ _<|Ne.symm hb;have hTu:=QY (Obj.mapFields (·.setIfInBounds 3 (fo.elim Value.none λf=>Jx f))) hT<|Obj.isFreed_of_fields hdT';refine⟨λb o hb o0 e1=>(other b λq=>hb<|.inr (by rw[q];exact h1)).trans e1,λb o hb e1=>⟨o.slots,(other b λq=>hb<|.inr (by rw[q];exact h1)).trans e1⟩,⟨T,_,_,oe,vs,.inr ⟨.inr h1,h1⟩,hTe,(other e<|Ne.symm hTe).trans he,rfl,rfl,hd,h1,rfl,hTu,hdT',?_⟩,λb hb ho=> ?_⟩
  ·rw[Wb h3s]
  ·obtain⟨o,eo⟩:=ho;by_cases q:b=T
   ·subst q;exact⟨_,hTu⟩
   ·exact⟨o,(other b q).trans eo⟩
end
section
variable{C:Cx}{σ:PH}{A:Jj}{Er:Jf->Je->Prop}{s:Je}{l:List Js}
theorem Noted.facts{F:Jg->Prop}{W:Ji}{S:Jg->Prop}{h₀:Ji}(N:Noted l e g vs fo F s.heap W)(m:Sim C σ s.heap)(r:Frs C σ s.heap l)
  (J:∀b,F b->C.B.get? b=Jb/\σ b=Jb/\h₀.get? b=Jb/\∀o,s.heap.get? b=Ja o->∃vs,o.data= .fields vs)(st:Step S B h₀ σ s.heap):
  Sim C σ W/\Step S B h₀ σ W/\(∀b o,¬F b->s.heap.get? b=Ja o->∃o',W.get? b=Ja o'/\Like o o'):=by
 have Q:∀b,b∈frsOf l->σ b=Jb/\C.B.get? b=Jb/\X3 λo U n=>s.heap.get? b=Ja o/\o.data= .dict U n:=λb h=>by
  obtain⟨Y,O,q⟩:=List.mem_filterMap.mp h;obtain⟨o0,L,o,U,n,T,j,X,u,I⟩:=r Y O;obtain rfl:=sj<|q.symm.trans T;exact⟨X,j,o,U,n,u,I⟩
 have y:∀b o,¬F b->s.heap.get? b=Ja o->∃o',W.get? b=Ja o'/\Like o o':=λb o h T=>by
  by_cases v:b∈frsOf l
  ·obtain⟨o0,o0,P,U,n,j,X⟩:=Q b v;obtain rfl:=sj<|T.symm.trans j;obtain⟨M,q⟩:=N.slots b o h T;exact⟨_,q,rfl,rfl,rfl,λk=>absurd X<|k U n⟩
  ·exact⟨o,N.same b o h v T,.refl o⟩
 have H:∀b o,s.heap.get? b=Ja o->∃o',W.get? b=Ja o':=λb o T=>by
  by_cases h:F b
  ·exact N.alive b h ⟨o,T⟩
  ·obtain⟨o',q,o0⟩:=y b o h T;exact⟨o',q⟩
 have V:Step S B h₀ σ W:=by
  refine⟨λb o T j=> ?_,st.grow,st.fix,λb T=> ?_⟩
  ·obtain⟨c,o',Z,K⟩:=st.keep b o T j;have h:¬F b:=λf=>by exact ns (((J b f).2.2.1).symm.trans T)
   obtain⟨P,z,G⟩:=y b o' h Z;exact⟨c,P,z,λk=>(K k).trans G⟩
  ·refine st.live b ?_
   induction q:s.heap.get? b with
   |none=>rfl
   |some o=>obtain⟨o',w⟩:=H b o q;exact ns<|T.symm.trans w
 have t:Step F σ s.heap σ W:=by
  refine⟨λb o T j=> ?_,λb o T=>⟨o,T⟩,λb o T o0=>T,λb T=> ?_⟩
  ·by_cases h:F b
   ·obtain⟨o',w⟩:=N.alive b h ⟨o,T⟩;exact⟨j,o',w,λk=>by obtain⟨x,n,q⟩:=k h;obtain⟨vs,Z⟩:=(J b h).2.2.2 o T;rw[q] at Z;cases Z⟩
   ·obtain⟨o',w,q⟩:=y b o h T;exact⟨j,o',w,λo0=>q⟩
  ·induction q:s.heap.get? b with
   |none=>rfl
   |some o=>obtain⟨o',w⟩:=H b o q;exact ns<|T.symm.trans w
 have same:∀b o,¬F b->b∉frsOf l->s.heap.get? b=Ja o->W.get? b=Ja o:=N.same;refine⟨m.step t (λa o T=> ?_)<|λb o T=> ?_,V,y⟩
 ·obtain⟨R,j,o0⟩:=m.objs a o T;rw[j];exact same a R (λf=>by exact ns<|((J a f).2.1).symm.trans T) (λf=>by exact ns<|((Q a f).1).symm.trans T) j
 ·exact same b o (λf=>by exact ns<|((J b f).1).symm.trans T) (λf=>by exact ns<|((Q b f).2.1).symm.trans T)<|m.base b o T
theorem jM{own fo:Option Jg}{env:Js}{S:Jg->Prop}{Q:Unit->Je->Prop}(ad:A.frames=Ja (env::t))(fr:Frs C σ s.heap (env::t))(hf:env.frame=Ja L)(m:Sim C σ s.heap)
  (f:Fly C own x e σ h₀ s.heap)(ho:∀Z,own=Ja Z->Z=L)(st:Step S B h₀ σ s.heap)
  (hK:∀a s' o' U T,e= .ref a->s'.heap.get? a=Ja o'->o'.data= .fields U->U[1]? =Ja (.ref T)->Jh (Mo C) A (JS e fo) Q Er s'->Jh (Mo C) A K Q Er s')
  (h:∀W,Sim C σ W->Fly C fo x e σ h₀ W->Step S B h₀ σ W->(∃F:Jg->Prop,Step F σ s.heap σ W/\∀b o,F b->s.heap.get? b=Ja o->∃vs,o.data= .fields vs)->(X6 λa oe vs T I E=>A8 (e= .ref a) (W.get? a=Ja oe) (oe.data= .fields vs) (vs[1]? =Ja (.ref T)) (T≠a) (W.get? T=Ja I) (I.data= .fields E)<|E[3]? =Ja (fo.elim Value.none λf=>Jx f))->Q () {s with heap:=W}):
  Jh (Mo C) A (noteFrame e env) (λo0 s'=>Jh (Mo C) A K Q Er s') Er s:=by
 obtain⟨a,o,vs,k,rfl,q2,q3,q4,q5,q6,q7,q8,q9,J,ac⟩:=f;refine vU ad fr.fun hf q5 q8 (λs' o' U T=>hK a s' o' U T rfl) (J.imp id λhq=>by obtain⟨T,I,E,v,X,H,D,w5,j,y,V⟩:=hq;exact⟨T,I,E,v,X,j,y,V.imp id λz'=>by obtain⟨Z,z1,z2⟩:=z';rw[<-ho Z z1];exact z2⟩) λW N=> ?_;have Y:∀b,(b=a\/vs[1]? =Ja (.ref b))->C.B.get? b=Jb/\σ b=Jb/\h₀.get? b=Jb/\∀o,s.heap.get? b=Ja o->∃vs,o.data= .fields vs:=λb R=>by
  rcases R with rfl|R
  ·exact⟨q2,q3,q4,λo' e'=>by obtain rfl:=sj<|q5.symm.trans e';exact⟨vs,q8⟩⟩
  ·rcases J with J|⟨T,I,E,v,X,H,D,w5,j,y,V⟩
   ·rw[J] at R;cases R
   ·rw[v] at R;cases R;exact⟨H,D,w5,λo' e'=>by obtain rfl:=sj<|j.symm.trans e';exact⟨E,y⟩⟩
 obtain⟨m',aa,lk⟩:=N.facts m fr Y st;have ae:∀b o,s.heap.get? b=Ja o->(∀vs,o.data≠ .fields vs)->¬ (b=a\/vs[1]? =Ja (.ref b)):=λb o P e2 f=>by
  obtain⟨vs,e3⟩:=(Y b f).2.2.2 o P;exact e2 vs e3
 have stF:Step (λb=>b=a\/vs[1]? =Ja (.ref b)) σ s.heap σ W:=by
  refine⟨λb O P e2=> ?_,λb o P=>⟨o,P⟩,λb o P o0=>P,λb P=> ?_⟩
  ·by_cases R:b=a\/vs[1]? =Ja (.ref b)
   ·obtain⟨o',w⟩:=N.alive b R ⟨O,P⟩;exact⟨e2,o',w,λk=>by obtain⟨xs,n,q⟩:=k R;obtain⟨vs,q2⟩:=(Y b R).2.2.2 O P;rw[q] at q2;cases q2⟩
   ·obtain⟨o',w,q⟩:=lk b O R P;exact⟨e2,o',w,λo0=>q⟩
  ·induction q:s.heap.get? b with
   |none=>rfl
   |some O=>
    by_cases R:b=a\/vs[1]? =Ja (.ref b)
    ·obtain⟨o',w⟩:=N.alive b R ⟨O,q⟩;exact ns<|P.symm.trans w
    ·obtain⟨o',w,o0⟩:=lk b O R q;exact ns<|P.symm.trans w
 refine h W m' ?_ aa ⟨_,stF,λb o f P=>(Y b f).2.2.2 o P⟩ ?_
 rotate_left
 ·obtain⟨T,I,E,o',U,v,X,H,D,w5,j,y,V,w9,M,G⟩:=N.exc;exact⟨a,_,_,T,I,E,rfl,H,j,y,X,w9,M,G⟩
 obtain⟨T,I,E,o',U,v,X,H,D,w5,j,y,V,w9,M,G⟩:=N.exc;have c:C.B.get? T=Jb/\σ T=Jb/\h₀.get? T=Jb:=by
  rcases v with v|⟨v,o0⟩
  ·refine⟨?_,?_,st.live T v⟩
   ·induction q:C.B.get? T with
    |none=>rfl
    |some o=>exact sn<|(m.base T o q).symm.trans v
   ·induction q:σ T with
    |none=>rfl
    |some o=>obtain⟨O,P,o0⟩:=m.objs T o q;exact ns<|v.symm.trans P
  ·exact⟨(Y T v).1,(Y T v).2.1,(Y T v).2.2.1⟩
 refine⟨a,_,_,k,rfl,q2,q3,q4,H,q6,D.trans q7,j,V.trans q9,.inr ⟨T,I,E,y,X,c.1,c.2.1,c.2.2,w9,M,?_⟩,?_⟩
 ·induction fo with
  |none=>exact .inl G
  |some Z=>exact .inr ⟨Z,rfl,G⟩
 ·rw[w5]
  induction ac with
  |no f e=>exact .no f e
  |at_ f d od e b n z g r=>
   obtain⟨es,ep,r1,r2,r3,r4⟩:=r;obtain⟨o',g',ab⟩:=lk d od (ae d od g λvs q=>by rw[r1] at q;cases q) g;exact .at_ f d o' e b n z g' ⟨es,ep,ab.2.2.1.trans r1,r2,λi f p h1 h2=>by obtain⟨u,a,b⟩:=r3 i f p h1 h2;exact⟨u,a,VR.step stF _ _ b⟩,r4⟩
theorem sC{own:Option Jg}{env:Js}{S:Jg->Prop}{Q:Unit->Je->Prop}(r:A.frames=Ja (env::o))(O:Frs C σ s.heap (env::o))(w:env.frame=Ja L)(m:Sim C σ s.heap)
  (f:Fly C own x e σ h₀ s.heap)(d:∀Z,own=Ja Z->Z=L)(st:Step S B h₀ σ s.heap)
  (h:∀W,Sim C σ W->Fly C Jb x e σ h₀ W->Step S B h₀ σ W->Q () {s with heap:=W}):
  Jh (Mo C) A (leaving env e) Q Er s:=by
 unfold leaving;exact YG<|jM (K:=JS e Jb) r O w m f d st (λo0 o0 o0 o0 o0 o0 o0 o0 o0 z=>z) λW a b c o0 o0=>h W a b c
end
section
set_option backward.match.sparseCases true
noncomputable def rho0(ps l:List String)(args:List PV):Rho:=ps.zip (args.map Ja)++l.map λx=>(x,Jb)
theorem lT{l:List String}{P:Prop}(h:Rho.get (l.map λx=>(x,Jb)) x=Ja p):P:=by
 induction l with
 |nil=>exact ns h
 |cons y r i=>
  have h:(if y=x then Jb else Rho.get (r.map λx=>(x,Jb)) x)=Ja p:=h;by_cases e:y=x
  ·exact ns<|(Ua e).symm.trans h
  ·exact i<|(Y9 e).symm.trans h
theorem oj{args:List PV}:(rho0 ps l args).get x=Ja p->∃i:Nat,ps[i]? =Ja x/\args[i]? =Ja p:=by
 induction ps generalizing args with
 |nil=>exact λh=>lT h
 |cons q ps W=>
  rcases args with o0|⟨a,args⟩
  ·exact λh=>lT h
  intro h;have h:(if q=x then Ja a else(rho0 ps l args).get x)=Ja p:=h;by_cases e:q=x
  ·rw[e,<-sj ((Ua e).symm.trans h)];exact⟨0,rfl,rfl⟩
  ·obtain⟨i,N,Y⟩:=W<|(Y9 e).symm.trans h;exact⟨i+1,N,Y⟩
section
variable{k:Jq->Option JV}
theorem oM:∀ (b:List (Jq×Jf)) (m:Jq->Option Jf) (x:Jq),x∉b.map (·.1)->bindL k b m x=m x
 |[]=>λm x h=>rfl
 |(n,v)::r=>λm x h=>by
  simp only[Qo,Qw,not_or] at h;unfold bindL;rw[oM r _ x h.2]
  split
  ·exact Y9 h.1
  ·rfl
theorem oX:∀ (b:List (Jq×Jf)) (m:Jq->Option Jf) (x:Jq),x∉b.map (·.1)->PySem.bindC k b m x=m x
 |[]=>λm x h=>rfl
 |(n,v)::r=>λm x h=>by
  simp only[Qo,Qw,not_or] at h;unfold PySem.bindC;rw[oX r _ x h.2]
  split
  ·rfl
  ·exact Y9 h.1
theorem lm:∀ (ns:List Jq) (vs:List Jf) (m:Jq->Option Jf) (i:Nat) (x:Jq) (v:Jf),ns.Nodup->ns[i]? =Ja x->vs[i]? =Ja v->k x=Ja .local->bindL k (ns.zip vs) m x=Ja v
 |[],_=>λo0 i x v o0 h o0 o0=>by simp at h
 |_::_,[]=>λo0 i x v o0 o0 h o0=>by simp at h
 |n::ns,w::vs=>λm i x v d N Y M=>by
  rw[Qx] at d;simp only[Ws];unfold bindL
  induction i using Nat.casesOn with
  |zero=>
   simp at N Y;subst N Y;rw[oM _ _ _ (by rintro q;obtain⟨p,D,e⟩:=Ql.mp q;have:=(Kz (show(p.1,p.2)∈_ from D)).1;rw[e] at this;exact d.1 this),Ua M,Ua rfl]
  |succ j=>exact lm ns vs _ j x v d.2 (by simpa using N) (by simpa using Y) M
theorem nL:∀ (ns:List Jq) (vs:List Jf) (m:Jq->Option Jf) (i:Nat) (x:Jq) (v:Jf),ns.Nodup->ns[i]? =Ja x->vs[i]? =Ja v->k x=Ja .cell->PySem.bindC k (ns.zip vs) m x=Ja v
 |[],_=>λo0 i x v o0 h o0 o0=>by simp at h
 |_::_,[]=>λo0 i x v o0 o0 h o0=>by simp at h
 |n::ns,w::vs=>λm i x v d N Y M=>by
  rw[Qx] at d;simp only[Ws];unfold PySem.bindC
  induction i using Nat.casesOn with
  |zero=>
   simp at N Y;subst N Y;rw[oX _ _ _ (by rintro q;obtain⟨p,D,e⟩:=Ql.mp q;have:=(Kz (show(p.1,p.2)∈_ from D)).1;rw[e] at this;exact d.1 this),Y9<|by rw[M];simp,Ua rfl]
  |succ j=>exact nL ns vs _ j x v d.2 (by simpa using N) (by simpa using Y) M
end
structure FnIn(B:Ji)(ps:List String)(a:Jg)(o:Jp)(fd:Jr)(body:List Jo):Prop where
 ho:B.get? a=Ja o
 hd:o.data= .func fd
 cd:B.CodeRec fd.code fd.qualname
 hb:fd.body= .stmts body
 clo:fd.closure=[]
 glb:fd.globals=JA
 blt:fd.builtins=builtinsNs
 bind:∀vals:List Jf,vals.length=ps.length->YZ fd ⟨vals,[]⟩=pure ((ps.map Qb).zip vals)
 par:(ps.all λp=>fd.scope.names.lookup (Qb p)==Ja .local||fd.scope.names.lookup (Qb p)==Ja .cell)=Jc
 nd:ps.Nodup
 co:fd.scope.isCoroutine=Jd
 gen:fd.scope.isGenerator=Jd
 kind:fd.scope.kind= .function
 free:(fd.scope.names.all λp=>p.2 != .free)=Jc
theorem FnIn.keeps{B e:Ji}(F:FnIn B ps a o f body)(kp:∀b o,B.get? b=Ja o->e.get? b=Ja o):FnIn e ps a o f body:=
 ⟨kp _ _ F.ho,F.hd,F.cd.keeps kp,F.hb,F.clo,F.glb,F.blt,F.bind,F.par,F.nd,F.co,F.gen,F.kind,F.free⟩
structure FnAt(C:Cx)(f:String)(ps:List String)(sts:List S)(a:Jg)(o:Jp)(fd:Jr)(body:List Jo):Prop extends FnIn C.B ps a o fd body where
 fv:C.fv f=Ja (.ref a)
 kp:Kp C (.ref a)
 mat:mSs fd.scope sts body=Jc
section
variable{C:Cx}{G:Gx}{mg mb:Jq->Option Jf}{n:Nat}
theorem cQ{l:List String}(h:l.Nodup):(l.map Qb).Nodup:=by
 induction l with
 |nil=>exact List.nodup_nil
 |cons x r i=>
  rw[Qx] at h;rw[Qo,Qx];exact⟨λq=>by obtain⟨y,W,e⟩:=Ql.mp q;rw[ofString_inj e] at W;exact h.1 W,i h.2⟩
theorem oH(g:GOK C G mg mb){ps:List String}{d:Jr}(F:FnIn C.B ps a o d body){args:List PV}(ls:List String)(u:args.length=ps.length){A:Jj}{s:Je}(H:AOK C (n+1) A l σ s.heap)(m:Sim C σ s.heap)(hv:VRs C σ s.heap args vs){R:Result->Je->Prop}
  (k:∀env s₁,ScR d.scope env->EnvR C env (rho0 ps ls args) σ s₁.heap->Sim C σ s₁.heap->Step none1 σ s.heap σ s₁.heap->Rest s s₁->AOK C n (A.deeper env) (env::l) σ s₁.heap->env.frame=Ja env.locals->env.locals=s.heap.objs.size->(∀x c,env.cells.lookup x=Ja c->s.heap.objs.size<=c)->
   (∀ {σ':PH} {s':Je},Step (ownE env) σ s₁.heap σ' s'.heap->Step none1 σ s.heap σ' s'.heap)->
   Jh (Mo C) (A.deeper env) (execs body env) (λf s'=>R (.ok (.ret (match f with| .ret v=>v|_=> .none))) s') (λe s'=>Jh (Mo C) (A.deeper env) (leaving env e) (λo0 W=>R (.error e) W) (λe' W=>R (.error e') W) s') s₁):codeAny (Mo C) A (.call (.ref a) ⟨vs,[]⟩) R s:=by
 have X:vs.length=ps.length:=hv.length.trans u;have B:A.depth<JZ:=by have:=H.depth;exact zl (zle (KF _ _)<|KF _ _) this
 have L:∀p∈ps,d.scope.names.lookup (Qb p)=Ja .local\/d.scope.names.lookup (Qb p)=Ja .cell:=λp I=>by
  have:=Qv.mp F.par p I;simpa [Yv] using this
 refine codeAny_call_cells B (m.base _ _ F.ho) F.hd (g.nolimit.keeps m.base) (F.cd.keeps m.base) F.hb (F.bind vs X) F.clo (λx hx=> ?_) (λs₁ r=> ?_) F.co F.gen F.kind
 ·have M:x.1∈ps.map Qb:=(Kz (show(x.1,x.2)∈_ from hx)).1;obtain⟨p,I,e⟩:=Ql.mp M;rw[<-e];refine(L p I).imp id λq=>⟨q,?_⟩
  obtain⟨c,o0,Z⟩:=fx d.scope.names (s.heap.objs.size+1) [] _ (Jv q);rw[Z];rfl
 generalize O:callEnvC d s.heap.objs.size a=env at r ⊢;have Y:env.locals=s.heap.objs.size:=by rw[<-O];rfl
 have T:∀x,env.kindOf x=d.scope.names.lookup x:=λx=>by rw[<-O];rfl
 have E:env.cells=JO (s.heap.objs.size+1) d.scope.names []:=by rw[<-O];rfl
 have z:∀x c,env.cells.lookup x=Ja c->s.heap.objs.size<=c:=λx c h=>by
  have:=r.above x c<|mem_of_lookup h;rw[Y] at this;exact Kv this
 have kp:∀b o,s.heap.get? b=Ja o->s₁.heap.get? b=Ja o:=r.toInCall.keep;have P:Step none1 σ s.heap σ s₁.heap:= .more kp;have m1:Sim C σ s₁.heap:=m.more kp;have r1:Rest s s₁:=by obtain⟨h',tk,e⟩:=r.toInCall.same;rw[e];exact⟨rfl,rfl⟩
 have K:=hv.step P;have ev:EnvR C env (rho0 ps ls args) σ s₁.heap:=by
  refine⟨by rw[<-O];exact F.kind,by rw[<-O];exact F.glb,by rw[<-O];exact F.blt,⟨_,r.toInCall.ns,λx p j w=> ?_⟩,λx p j w=> ?_,by rw[Y];exact m.fresh (Qy _),by rw[Y];exact m.freshB (Qy _),
   λx c h=>m.freshB (z x c h),λx c h=>⟨m.fresh (z x c h),_,r.cell x c h⟩,λx y c D Q=>name_of_addr r.apart (Jv D) (Jv Q),λx h=> ?_⟩
  ·obtain⟨i,D,Q⟩:=oj j;obtain⟨v,J,S⟩:=K.get i p Q;refine⟨v,lm _ _ _ i _ v (cQ F.nd) (by rw[Qs,D];rfl) J w,S⟩
  ·obtain⟨i,D,Q⟩:=oj j;obtain⟨v,J,S⟩:=K.get i p Q;have t:env.kindOf (Qb x)=Ja .cell:=w.resolve_right λq=>by
    rw[T] at q;have:=Qv.mp F.free _<|mem_of_lookup q;simp at this
   obtain⟨c,o0,Z⟩:=fx d.scope.names (s.heap.objs.size+1) [] _ (Jv<|by rw[<-T];exact t);rw[<-E] at Z;refine⟨c,v,Z,?_,S⟩;have:=r.cell _ c Z;rw[nL _ _ _ i _ v (cQ F.nd) (by rw[Qs,D];rfl) J t] at this;exact this
  ·rcases h with h|h
   ·obtain⟨c,o0,Z⟩:=fx d.scope.names (s.heap.objs.size+1) [] _ (Jv<|by rw[<-T];exact h);exact⟨c,by rw[E];exact Z⟩
   ·rw[T] at h;have:=Qv.mp F.free _<|mem_of_lookup h;simp at this
 have U:AOK C n (A.deeper env) (env::l) σ s₁.heap:=by
  refine⟨?_,?_,?_,?_,H.calm⟩
  ·have:=H.depth;show A.depth+1+n+2<_;exact zl (Kl (QU<|QI _ _ _) 2) this
  ·have:=H.units;show A.units+3+30*n+300<_;exact zr6 this
  ·show A.frames.map (env:: ·)=_;rw[H.stack];rfl
  ·intro en V
   rcases Qw.mp V with rfl|V
   ·obtain⟨o',es,ep,q1,q2,o0⟩:=r.toInCall.ns;refine⟨by rw[ev.fn];simp,en.locals,o',es,ep,by rw[<-O];rfl,by rw[Y];exact m.freshB<|Qy _,by rw[Y];exact m.fresh<|Qy _,q1,q2⟩
   ·exact(H.step P).frs en V
 have sr:ScR d.scope env:=by
  have:d.scope=env.scope:=by rw[<-O];rfl
  rw[this];exact .self env
 have back:∀ {σ':PH} {s':Je},Step (ownE env) σ s₁.heap σ' s'.heap->Step none1 σ s.heap σ' s'.heap:=λ{σ' s'} st=>(P.own.trans st).mono λb hb q=>by
  have N:b<s.heap.objs.size:=by
   induction e:s.heap.get? b with
   |none=>rw[e] at hb;exact ft hb
   |some o=>exact QO e
  rcases q with q|⟨x,q⟩
  ·rw[q,Y] at N;exact(KJ _ N).elim
  ·exact(KJ _<|QJ N (z x b q)).elim
 exact k env s₁ sr ev m1 P r1 U (by rw[<-O];rfl) Y z back
theorem AV(T:Todo C G n)(T2:Todo2 C G n)(Tu:Todo C.un G.un n)(T2u:Todo2 C.un G.un n)(g:GOK C G mg mb){ps:List String}(F:FnAt C f ps sts a o fd body)
  {args:List PV}(ls:List String)(hlen:args.length=ps.length)
  (w:wss G (aO C n) (aO C.un n) sts (rho0 ps ls args) σ (λfl o0 σ'=>match fl with
   | .next=>Q .none σ'
   | .ret v=>Q v σ') λx o0 σ'=>X x σ'):aO C (n+1) f args σ Q X:=by
 refine⟨.ref a,F.fv,F.kp,λA l s vs ak m hv=>wpAny_call<|oH g F.toFnIn ls hlen ak m hv λenv s₁ sr ev m1 st1 r1 ak1 hfr hloc habove back=> ?_⟩;refine YI (hX sts C G T T2 Tu T2u g fd.scope body F.mat ⟨⟨sr,ev,m1,ak1⟩,l,rfl,hfr⟩ w) (λfl s' h=> ?_) λx s' h=> ?_
 ·obtain⟨f',ρ',σ',h1,o0,m',st',r',o0,w⟩:=h
  induction f' with
  |next=>
   simp only[FR] at h1;subst h1;exact⟨.none,σ',j7,m',back st',r1.trans r',w⟩
  |ret p=>
   obtain⟨v,rfl,hv'⟩:=h1;exact⟨p,σ',hv',m',back st',r1.trans r',w⟩
 ·obtain⟨x,ρ',σ',fl,o0,m',st',r',ak',w⟩:=h;have fl0:Fly C env.frame x _ σ' s.heap s'.heap:=fl.from st1;exact sC ak'.stack ak'.frs hfr m' fl0 (λL' q=>by obtain rfl:=sj<|hfr.symm.trans q;rfl) (back st') λh' m2 fl2 st2=>⟨x,σ',fl2,m2,st2,r1.trans r',w⟩
end
end
section
open PySem.W PyProof.Rows
noncomputable abbrev bmV:List Jf:=[.type "ValueError",.type "Exception",.type "BaseException",.type "object"]
inductive IniAt(B:Ji)(K:Frag)(k:Jg)(names:List String):Prop
 |mk (bm:List Jf) (N:Jg) (nm q:Jq) (bs:List Jf) (sn:List Jq) (sub:List Jf) (ab:Bool) (col:Option Bool) (dd:Option Jg) (k0 k1 k2 k3 k5:Option Jf) (mN:Jq->Option Jf) (fI:Jg) (oI:Jp) (fd:Jr) (body:List Jo)
  (hC:B.get? k=Ja (JE nm q k N bs bm Jc sn sub ab col dd k0 k1 k2 k3 k5 "ValueError.__new__")) (hN:B.Ns N mN) (hi:mN "__init__"=Ja (.ref fI)) (T:J0 B bmE bm) (ho:B.get? fI=Ja oI) (hfc:oI.cls= .type "function") (hd:oI.data= .func fd)
  (cd:B.CodeRec fd.code fd.qualname) (hb:fd.body= .stmts body) (clo:fd.closure=[]) (bind:∀vals:List Jf,vals.length=names.length+1->YZ fd ⟨vals,[]⟩=pure ((("self"::names).map Qb).zip vals))
  (par:∀x∈"self"::names,fd.scope.names.lookup (Qb x)=Ja .local/\(Qb x==("__debug__":Jq))=Jd) (nd:("self"::names).Nodup) (co:fd.scope.isCoroutine=Jd) (gen:fd.scope.isGenerator=Jd) (kind:fd.scope.kind= .function)
  (mat:mIni fd.scope names body=Jc) (sa:findIn K (.ref k) "__setattr__"=Ja (Ja<|.builtin "object.__setattr__")) (len:names≠ []/\names.length<=50):IniAt B K k names
structure InstK(C:Cx)(G:Gx)(c:String)(k:Jg):Prop where
 ga:findIn C.K (.ref k) "__getattribute__"=Ja (Ja<|.builtin "object.__getattribute__")
 gh:findIn C.K (.ref k) "__getattr__"=Ja Jb
 dct:hasDictIn C.K k=Jc
 fl:∀f∈G.flds c,findIn C.K (.ref k) (Qb f)=Ja Jb
 me:∀f v,bP f=Jd->cOf f=c->C.fv f=Ja v->∃a,A4 (v= .ref a) (findIn C.K (.ref k) (Qb<|mOf f)=Ja (Ja<|.ref a)) (typeIn C.K (.ref a)=Ja (.type "function")) (∀x∈C.flds c,Qb (mOf f)≠Qb x)
structure ExcOK(C:Cx)(G:Gx)(mg mb:Jq->Option Jf):Prop where
 kin:Frag.In C.K C.B
 cls:∀c k,C.cls c=Ja k->mg (Qb c)=Ja (.ref k)
 has:∀c,G.cs.contains c=Jc->∃k,C.cls c=Ja k
 hasM:∀c,G.mks.contains c=Jc->∃k,C.cls c=Ja k
 sub:∀c k d kd,C.cls c=Ja k->C.cls d=Ja kd->exmOne C.K (.ref k) (.ref kd)=Ja (G.sub c d)
 fl:∀c,G.flds c=C.flds c
 flm:∀c,G.mks.contains c=Jc->G.flds c=[]
 fld:∀c k f,C.cls c=Ja k->f∈G.flds c->findIn C.K (.ref k) (Qb f)=Ja Jb
 ini:∀c,G.inis.contains c=Jc->∃k,C.cls c=Ja k/\IniAt C.B C.K k (G.flds c)
 make:∀c k,C.cls c=Ja k->G.mks.contains c=Jc->OwnCls (Qb c) k bmV "ValueError.__new__" mg C.B
 ins:∀c k,C.icl c=Ja k->InstK C G c k
theorem ExcOK.un{C:Cx}{G:Gx}{mg mb:Jq->Option Jf}(X:ExcOK C G mg mb):ExcOK C.un G.un mg mb:=⟨X.kin,X.cls,X.has,X.hasM,X.sub,X.fl,X.flm,X.fld,X.ini,X.make,λc k h=>⟨(X.ins c k h).ga,(X.ins c k h).gh,(X.ins c k h).dct,(X.ins c k h).fl,(X.ins c k h).me⟩⟩
section
variable{C:Cx}{G:Gx}{mg mb:Jq->Option Jf}{n:Nat}{A:Jj}{Er:Jf->Je->Prop}{env:Js}{ρ:Rho}{σ:PH}{s:Je}
theorem _root_.PySem.W.InstAt.keeps{h S:Ji}{x D:Jg}{d:Option Jp}(I:InstAt h x j D d)(k:∀b o,h.get? b=Ja o->S.get? b=Ja o):InstAt S x j D d:=by
 refine⟨k _ _ I.at_,I.cls,I.no,?_⟩;have:=I.dict;cases N:j.dict<;>rcases d with⟨⟩<;>rw[N] at this<;>first|exact this|exact k _ _ this
theorem rI(r:VR C σ h p v):handedOut v=pure v:=by
 induction p using PV.casesOn with
 |none=>cases (show v= .none from r);rfl
 |bool b=>cases (show v= .bool b from r);rfl
 |int i=>obtain⟨t,rfl⟩:=r;rfl
 |str i=>obtain⟨t,rfl⟩:=r;rfl
 |tup l=>obtain⟨a,n,w,rfl,o0⟩:=r;rfl
 |ref a=>cases (show v= .ref a from r);rfl
 |scr l=>obtain⟨a,o,n,w,rfl,o0⟩:=r;rfl
theorem wC{c:String}{l:List PV}{o:Jp}{h:Ji}{j:Nat}{f:String}{p:PV}(r:FD C σ h c l o)(E:(C.flds c)[j]? =Ja f)(Y:l[j]? =Ja p):∃v,lookIn (Qb f) o=Ja (Ja v)/\VR C σ h p v:=by
 obtain⟨U,H,e,k,v,o0⟩:=r;obtain⟨u,a,b⟩:=v j f p E Y;refine⟨u,?_,b⟩;unfold nsFind findBy at a;rw[<-Array.find?_toList] at a;obtain⟨d,N,q⟩:=Qt.mp a;unfold lookIn;rw[e];show(match U.toList.find? (·.key.isStr (Qb f)) with
   |some e=>Ja<|Ja e.val
   |none=>if U.toList.any (·.refKey) then Jb else Ja Jb)=_
 rw[N,<-q]
theorem vy(h:pfd G f o=Ja u):X3 λc l j=>A3 (o=Ja (.fd c l)) ((G.flds c).idxOf? f=Ja j) (l[j]? =Ja u):=by
 induction o with
 |none=>exact onx h
 |some P=>
  induction P with
  |fd c l=>
   obtain⟨j,J,w⟩:=Qq.mp (show((G.flds c).idxOf? f).bind (λj=>l[j]?)=Ja u from h);exact⟨c,l,j,rfl,J,w⟩
  |_=>exact onx h
theorem uV(h:pattr G σ f v=Ja u):X2 λb d=>A3 (v= .ref b) (σ b=Ja (.inst d)) (pfd G f (σ d)=Ja u):=by
 induction v using PV.casesOn with
 |ref b=>
  replace h:pfld G σ f (σ b)=Ja u:=h
  induction e:σ b with
  |none=>rw[e] at h;exact onx h
  |some o=>
   rw[e] at h
   induction o with
   |inst d=>exact⟨b,d,rfl,e,h⟩
   |_=>exact onx h
 |_=>exact onx h
theorem uR{K:Frag}{D:Jg}{o:Jp}{f:Jq}{v:Jf}(h:hasDictIn K D=Jc)(i:findIn K (.ref D) f=Ja Jb)(l:lookIn f o=Ja (Ja v)):findObj K D (Ja o) f=Ja (.value v):=by
 obtain⟨I,c,d⟩:=any_some h;unfold findObj;rw[c,KV,i,KV,KV,KV];show(W.ownOf I (Ja o) f).bind _=_;unfold W.ownOf;rw[Ua d];show(lookIn f o).bind _=_;rw[l];rfl
theorem wV{l:List String}(h:l.idxOf? f=Ja j):l[j]? =Ja f:=by
 obtain⟨T,e⟩:=List.idxOf?_eq_some_iff.mp h;rw[Qi T];exact Ud Ja e.1
theorem rT{E:Jf->Je->Prop}{Q:Jf->Je->Prop}{s:Je}{K:Frag}{x D:Jg}(a:findIn K (.ref D) "__getattribute__"=Ja (Ja (.builtin "object.__getattribute__")))
  (W:findObj K D o f=Ja (.value v))(hv:handedOut v=pure v)(X:K.In s.heap)(I:InstAt s.heap x j D o)(h:Q v {s with toks:=s.toks+1}):Jh (Jt prog w) A (getAttr (.ref x) f Jc) Q E s:=by
 refine get_open X I a ?_;obtain⟨H,g,d,t,m⟩:=s;refine YG<|YH (YG<|(I.type (M:=Jt prog w)).at (YG<|(looks_find (M:=Jt prog w) X I W).at ?_));refine YH ?_;show Jh _ _ (handedOut v) _ _ _;rw[hv];exact YH h
theorem sq{o:Jp}(h:∀c,o.data≠ .cls c):notCls o=Jc:=by
 obtain⟨a,b,d,e⟩:=o
 rcases d with⟨⟩<;>first|rfl|exact absurd rfl<|h _
theorem ss(X:ExcOK C G mg mb){sc:Jk}{x f:String}{q p:Pos}(N:isLoc sc (Qb x)=Jc)(Y:bD (Qb x)=Jc):EvOK C G n sc (.attr x f) (.Attribute (.Name (Qb x) q) (Qb f) p):=λ{env ρ A l σ s Q M} R w=>by
 have m:=R.m;obtain⟨v,hx,w⟩:=jK (show oV (λv=>oV (λu=>Q u σ)<|pattr G σ f v) (ρ.get x) from w);obtain⟨u,i,S⟩:=jK w;obtain⟨b,d,rfl,L,t⟩:=uV i;obtain⟨c,y,j,e,J,T⟩:=vy t;obtain⟨o,g,r⟩:=m.objs _ _ e;have H:(G.flds c)[j]? =Ja f:=wV J;obtain⟨v,h,hv⟩:=wC r ((X.fl c)▸H) T;rw[arm_eval_Attribute];show Jh (Mo C) A (Jw (.Name (Qb x) q) env>>=_) _ _ s;refine YG (kR R.ev (jB R.sr N) Y hx λz F=> ?_);rw[show z= .ref b from F];refine YG<|YK (YG<|YJ ?_);obtain⟨W,Z,B,k,P,U,V,O,E,D⟩:=m.objs _ _ L;rw[e] at D;cases D;have I:InstAt s.heap b W k (Ja o):=⟨Z,U,sq V,by rw[O];exact g⟩
 have K:=X.ins _ k P;exact rT K.ga (uR K.dct (K.fl f<|QB H) h) (rI hv) (X.kin.keeps m.base) I<|YG (wpAny_of_eq (a:=()) rfl<|YH (VP.here m rfl ⟨rfl,rfl⟩ hv S))
theorem getM{E:Jf->Je->Prop}{h:Ji}{K:Frag}{x k d a:Jg}{o:Jp}{pl:Sem Bool}{mm:Jq->Option Jf}{Q:Jf×List Jf->Je->Prop}(X:K.In h)(hx:h.get? x=Ja o)(v:o.cls= .ref k)(O:o.dict=Ja d)(m:h.Ns d mm)(hsh:mm name=Jb)
  (p:findIn K (.ref k) "__getattribute__"=Ja (Ja<|.builtin "object.__getattribute__"))(V:findIn K (.ref k) "__getattr__"=Ja Jb)(f:findIn K (.ref k) name=Ja (Ja<|.ref a))(W:typeIn K (.ref a)=Ja (.type "function"))(H:Q (.ref a,[.ref x]) ⟨h,g,r,t,R⟩):
  Jh (Jt prog w) A (getMethod (.ref x) name pl) Q E ⟨h,g,r,t,R⟩:=by
 have c:=F.canon_object_ga;have U:=looks_findIn (M:=Jt prog w) X p;have q:=looks_findIn (M:=Jt prog w) X V;have Z:=looks_findIn (M:=Jt prog w) X f;have z:=looks_typeIn (M:=Jt prog w) X W;unfold getMethod specialOf;have L:Looks (Jt prog w) h (typeOf<|.ref x) (.ref k):=v▸(Looks.ld hx).andThen .now;refine YG<|YG (L.at<|U.at ?_);simp only[c,Bool.false_eq_true,if_false];refine YG<|YG (L.at<|q.at ?_);refine wn QC ?_;refine YG<|YG (L.at<|Z.at ?_);dsimp only;refine YG<|z.at ?_;refine wn (by decide) ?_;refine YG<|wpAny_loadPart_at hx ?_;rw[O];refine YG<|wpAny_nsGet m ?_;rw[hsh];refine wn QC ?_;exact YG<|wpAny_rule (YH H)
end
end
section
open PySem.W PyProof.Rows
section
variable{C:Cx}{G:Gx}{mg mb:Jq->Option Jf}{n:Nat}
theorem si{E:Jf->Je->Prop}{a pos:Pos}{args:List Jl}{Q:Jf->Je->Prop}(O:attributeBase o name env (Jw o env)=Jw o env)
  (f:methodCallForm (args.length+([]:List Keyword).length) (JW pos<|starEach args env) (backToKw pos<|keywordEach [] env)=Jc)(l:(a.endLine==pos.line)=Jc)
  (h:Jh (Jt prog w) A (Jw o env) (λv s₁=>∀pl:Sem Bool,Jh (Jt prog w) A (getMethod v name pl) (λr b=>Jh (Jt prog w) A (callWith pos r.1 r.2 (JW pos<|starEach args env)<|backToKw pos (J2 [] env)) Q E b) E s₁) E s):
  Jh (Jt prog w) A (Jw (.Call (.Attribute o name a) args [] pos) env) Q E s:=by
 rw[arm_eval_Call,O];refine YG (YI h (λv s₁ V=> ?_) λo0 o0 e=>e);refine YG<|YK ?_;have M:methodCallPos Jc o env a pos=pure pos:=by unfold methodCallPos;simp[l]
 unfold methodCall;rw[f];refine YG<|YJ (YI (V _) (λr b p=> ?_) λo0 o0 e=>e);exact YG<|wpAny_of_eq M p
theorem tC{as:List Jl}(h:d4 as=Jc)(l:as.length<=20):methodCallForm (as.length+([]:List Keyword).length) (JW pos (JD as env)) (backToKw pos (J2 [] env))=Jc:=by
 have s:=iO (pos:=pos) (env:=env) h;show((JW pos<|starEach as env).all (λx=> !x.1)&&Jc&&decide (as.length+0+0<30))=Jc;rw[<-List.not_any_eq_all_not,s,Y6 (show as.length+0+0<30 from zb1 l rfl)];rfl
theorem pr(g:GOK C G mg mb)(X:ExcOK C G mg mb){args:List E}{as:List Jl}{p q:Pos}(ho:EvOK C G n sc o y)(B:d9 y=Jc)(h5:(p.endLine==q.line)=Jc)(h:Evs C G n sc args as)(h4:as.length<=20)(K:bP f=Jd)(h7:cOf f=c):EvOK C G n sc (.mcall c f o args) (.Call (.Attribute y (Qb (mOf f)) p) as [] q):=λ{D ρ A l σ s Q X'} I w=>by
 obtain⟨v,hv,kp⟩:=g.fn f w.1;refine si (kv B) (tC h.plain h4) h5 ?_;refine EOK.then (ho I w.2) λv1 s1 p1 O u m t r Z=> ?_;obtain⟨b,d,fs,rfl,e1,F⟩:=wg Z.1;rw[show v1= .ref b from u];obtain⟨ob,L,ci,k,P,i,k3,k5,aa,N⟩:=m.objs _ _ e1;rw[F] at N;cases N;obtain⟨od,g2,j,ep,W,hk,o0,Y⟩:=m.objs _ _ F;obtain⟨a,rfl,f1,S,f3⟩:=(X.ins _ k P).me f v K h7 hv;intro pl;obtain⟨hh,gg,dr,tk,os⟩:=s1;refine getM (X.kin.keeps m.base) L i k5 (mm:=λz=>nsFind j z) ⟨od,j,ep,g2,W,hk,λo0=>rfl⟩ (Y _ f3) (X.ins _ k P).ga (X.ins _ k P).gh f1 S ?_;refine d5 (first:=[.ref b]) kp h.plain ?_;refine YI (jJ h (I.step t m) Z.2) (λJ R T=> ?_) λo0 o0 x=>XP.from t r x;obtain⟨ps,ab,U,H,V,M,hn,w2⟩:=T;obtain⟨v',e,o0,w3⟩:=w2;obtain rfl:=sj<|hv.symm.trans e;exact⟨H.base,YI (w3 A l R (.ref b::J) ((I.ak.step t).step V) H ⟨.ref b,J,rfl,rfl,U⟩) (λo0 o0 x=>VP.from t r<|VP.from V M x) λo0 o0 x=>XP.from t r<|XP.from V M x⟩
end
end
section
open PySem.W PyProof.Rows
section
variable{C:Cx}{G:Gx}{mg mb:Jq->Option Jf}{n:Nat}{A:Jj}{env:Js}{ρ:Rho}{σ:PH}{s:Je}{l:List Js}
theorem dt{h:Ji}(m:Sim C σ h)(n:h.get? e=Jb):C.B.get? e=Jb/\σ e=Jb:=by
 constructor
 ·induction q:C.B.get? e with
  |none=>rfl
  |some o=>exact ns<|n.symm.trans (m.base e o q)
 ·induction q:σ e with
  |none=>rfl
  |some o=>obtain⟨b,z,o0⟩:=m.objs e o q;exact ns<|n.symm.trans z
inductive ExCls(h:Ji)(k:Jg):Prop
 |mk (nm q:Jq) (N:Jg) (bs bm:List Jf) (hdct:Bool) (sn:List Jq) (sub:List Jf) (ab:Bool) (col:Option Bool) (dd:Option Jg) (k0 k1 k2 k3 k5:Option Jf) (newId:String) (hC:h.get? k=Ja (JE nm q k N bs bm hdct sn sub ab col dd k0 k1 k2 k3 k5 newId)) (hb:bm.contains (.type "BaseException")=Jc):ExCls h k
theorem ExCls.keeps{h S:Ji}(x:ExCls h k)(kp:∀b o,h.get? b=Ja o->S.get? b=Ja o):ExCls S k:=by
 obtain⟨nm,q,N,bs,m,d,sn,sub,a,c,f,W,P,U,F,O,e,M,R⟩:=x;exact⟨nm,q,N,bs,m,d,sn,sub,a,c,f,W,P,U,F,O,e,kp _ _ M,R⟩
theorem ExCls.kp(x:ExCls C.B k):Kp C (.ref k):=by
 obtain⟨nm,B,N,bs,b,h,sn,sub,a,c,d,S,P,U,F,O,e,M,R⟩:=x;exact⟨.machine,.inr<|.inl rfl,λA Q E s kp q=>wpAny_keeperOf_exc (kp _ _ M) q⟩
inductive RP(k:Jg)(E:Jf->Je->Prop)(v:Jf)(s:Je):Prop
 |mk (e t:Jg) (dx:Option Jg) (hv:v= .ref e) (x:ExCls s.heap k) (he:s.heap.get? e=Ja {cls:= .ref k,dict:=dx,data:= .fields #[.ref t,.none,.none,.none,.bool Jd,.none]}) (hE:E (.ref e) s):RP k E v s
theorem pH{E:Jf->Je->Prop}{Q:Flow->Je->Prop}(U:A.handled=Jb)(h:Jh M A x (RP k E) E s):
  Jh M A (raiseStmt env (Ja x) Jb) Q E s:=by
 unfold raiseStmt;refine YG (YI h (λv m V=> ?_) λo0 o0 x=>x);obtain⟨e,t,u,rfl,x,O,I⟩:=V;obtain⟨nm,q,N,bs,b,y,sn,sub,a,o,f,S,P,X,F,T,w,i,R⟩:=x;have c:(Value.ref k::b).contains (.type "BaseException")=Jc:=by rw[KZ,R,Bool.or_true]
 obtain⟨p,g,d,tk,Z⟩:=m
 repeat (first|with_reducible refine Jy O ?_|with_reducible refine Jy i ?_|(with_reducible refine YV i ?_;rw[c])|wp_step)
 exact wpAny_raiseNew_none U I
theorem tJ{E:Jf->Je->Prop}{Q:Flow->Je->Prop}(U:A.handled=Jb)(h:Jh M A (Jw e env) (RP k E) E s):Jh M A (exec (.Raise (Ja e) Jb pos) env) Q E s:=by
 rw[arm_exec_Raise];exact YG<|YK (pH U<|YG (YI h (λv p B=>YG<|YK (YH B)) λo0 o0 x=>x))
inductive RM(C:Cx)(c:String)(k:Jg)(ps:List PV)(σ:PH)(h₀:Ji)(s:Je)(v:Jf)(s':Je):Prop
 |mk (e t:Jg) (dx:Option Jg) (hv:v= .ref e) (new:s.heap.get? e=Option.none) (go:s'.heap.get? e=Ja {cls:= .ref k,dict:=dx,data:= .fields #[.ref t,.none,.none,.none,.bool Jd,.none]})
  (keep:∀b o,s.heap.get? b=Ja o->s'.heap.get? b=Ja o) (rest:Rest s s') (ff:FF C ⟨c,ps⟩ σ h₀ s'.heap dx):RM C c k ps σ h₀ s v s'
theorem RM.raise{s₁ j:Je}(r:RM C c k ps σ1 s.heap s₁ v j)(x:ExCls C.B k)(h:C.cls c=Ja k)(m:Sim C σ1 s₁.heap)(P:Step none1 σ s.heap σ1 s₁.heap)(B:Rest s s₁)(W:EnvR C env ρ σ s.heap)(a:AOK C n A l σ s.heap)(w:X ⟨c,ps⟩ ρ σ1):RP k (SX C n A l env σ s X) v j:=by
 obtain⟨e,t,d,rfl,new,g,keep,y,f⟩:=r;have V:Step none1 σ s.heap σ1 j.heap:=P.trans<|.more keep;exact⟨e,t,d,rfl,x.keeps λb o q=>keep b o<|m.base b o q,g,⟨c,ps⟩,ρ,σ1,⟨e,_,_,k,rfl,(dt m new).1,(dt m new).2,P.live e new,g,h,rfl,rfl,rfl,.inl rfl,f⟩,W.step V,m.more keep,V.own,B.trans y,a.step V,w⟩
def MkOK(C:Cx)(G:Gx)(n:Nat)(c:String)(k:Jg)(N:Nat):Prop:=∀ (A:Jj) (l:List Js) (σ T:PH) (s m:Je) (p:List PV) (v:List Jf) (E:Jf->Je->Prop),AOK C n A l σ s.heap->VRs C T m.heap p v->Sim C T m.heap->Step none1 σ s.heap T m.heap->p.length=N->v.length<=JJ->
 Jh (Mo C) A (call (.ref k) v) (RM C c k (p.take (G.flds c).length) T s.heap m) E m
theorem lR(g:GOK C G mg mb)(X:ExcOK C G mg mb)(a:C.calm){args:List E}(M:C.cls c=Ja k)(x:ExCls C.B k)(mk:MkOK C G n c k args.length){sc:Jk}{as:List Jl}{py p q:Pos}(B:sc.names.lookup (Qb c)=Ja .globalImplicit)(W:bD (Qb c)=Jc)(J:as.length<=20)(h:Evs C G n sc args as):
  StK C G n sc (.raise c args) (.Raise (Ja<|.Call (.Name (Qb c) py) as [] p) Jb q):=λ{env ρ A l σ s Q F} I w=>by
 refine tJ (k:=k) (I.ak.calm a) ?_;rw[gf];refine YG<|im g I.ev I.m (I.sr.glob _ B) W (X.cls c k M) (d5 (first:=[]) x.kp h.plain ?_);refine YI (jJ h I.toAt w.2) (λj D T=> ?_) λo0 o0 x=>XP.stmt I.ev I.ak x;obtain⟨i,O,hv,m,t,f,o,w⟩:=T;have H:j.length<=JJ:=by rw[hv.length,o,<-h.length];exact Qn J<|by decide
 exact⟨m.base,YI (mk _ _ _ _ _ _ _ _ _ I.ak hv m t o H) (λv R r=>r.raise x M m t f I.ev I.ak w) λo0 o0 x=>x⟩
theorem pf(g:GOK C G mg mb)(X:ExcOK C G mg mb)(a:C.calm){args:List E}(w:G.mks.contains c=Jc){sc:Jk}{as:List Jl}{py p q:Pos}(u:sc.names.lookup (Qb c)=Ja .globalImplicit)(W:bD (Qb c)=Jc)(J:as.length<=20)(H:Evs C G n sc args as):StK C G n sc (.raise c args) (.Raise (Ja (.Call (.Name (Qb c) py) as [] p)) Jb q):=by
 obtain⟨k,M⟩:=X.hasM c w;obtain⟨D,N,nm,B,bs,h,sn,sub,b,o,f,S,r,U,F,O,z,d,x,i,T⟩:=(X.make c k M w).obj;refine lR g X a M ⟨nm,B,N,bs,D,h,sn,sub,b,o,f,S,r,U,F,O,_,d,T.hasType<|by decide+kernel⟩ ?_ u W J H;intro A l σ j s Z K v E y hv m P I V;refine wpAny_call_exc_subT (hrest:=V) PySem.F.excBase_ValueError (T.keeps m.base) (m.base _ _ d) (x.keeps m.base) i λR e hx=> ?_;obtain⟨t,L,Y,Q⟩:=hx.there;exact⟨e,t,_,rfl,hx.new,L,hx.keeps,⟨rfl,rfl⟩,.no (by rw[X.flm c w];rfl) rfl⟩
end
end
section
open PySem.W PyProof.Rows
theorem uZ(h:mIni sc [] b=Jc):b=[]:=by
 induction b using List.casesOn with
 |nil=>rfl
 |cons=>exact ft h
theorem rE(h:mIni sc (x::xs) b=Jc):
  X5 λo U J B r=>b= .Assign [.Attribute (.Name (Qb "self") o) (Qb x) U] (.Name (Qb x) J) B::r/\mIni sc xs r=Jc:=by
 induction b using List.casesOn with
 |nil=>exact ft h
 |cons y T=>
  obtain⟨Y,Q⟩:=and2 (show(kAsg (hAttr x<|hName (isLoc sc) "self") (hName (isLoc sc) x) y&&mIni sc xs T)=Jc from h);refine oZ (P:=λy=>X5 λo U J B r=>y::T= .Assign [.Attribute (.Name (Qb "self") o) (Qb x) U] (.Name (Qb x) J) B::r/\mIni sc xs r=Jc) Y λt v s H O=> ?_;refine wx (P:=λt=>X5 λo U J B r=> .Assign [t] v s::T= .Assign [.Attribute (.Name (Qb "self") o) (Qb x) U] (.Name (Qb x) J) B::r/\mIni sc xs r=Jc) H λz p n o0 o0=> ?_;refine iP (P:=λz=>X5 λo U J B r=> .Assign [.Attribute z (Qb x) p] v s::T= .Assign [.Attribute (.Name (Qb "self") o) (Qb x) U] (.Name (Qb x) J) B::r/\mIni sc xs r=Jc) n λq o0 o0=> ?_;exact iP (P:=λv=>X5 λo U J B r=> .Assign [.Attribute (.Name (Qb "self") q) (Qb x) p] v s::T= .Assign [.Attribute (.Name (Qb "self") o) (Qb x) U] (.Name (Qb x) J) B::r/\mIni sc xs r=Jc) O λZ o0 o0=>⟨_,_,_,_,_,rfl,Q⟩
noncomputable def addF(m:Jq->Option Jf)(names:List String)(v:Jq->Option Jf):Jq->Option Jf:=names.foldl (λa x=>λy=>if y=Qb x then m (Qb x) else a y) v
theorem jx(m:Jq->Option Jf)(x:String)(xs:List String)(v:Jq->Option Jf):addF m (x::xs) v=addF m xs (λy=>if y=Qb x then m (Qb x) else v y):=rfl
theorem nN(m:Jq->Option Jf):∀ (names:List String) (v:Jq->Option Jf) (y:Jq),(y∈names.map Qb\/v y=m y)->addF m names v y=m y
 |[]=>λv y h=>by rcases h with h|h;cases h;exact h
 |x::s=>λv y h=>by
  rw[jx];refine nN m s _ y ?_;by_cases e:y=Qb x
  ·exact .inr<|by rw[Ua e,e]
  ·refine h.imp (λh=> ?_) λh=>by rw[Y9 e];exact h
   rcases Qw.mp h with h|h
   ·exact absurd h e
   ·exact h
theorem qN(m:Jq->Option Jf):∀ (names:List String) (v:Jq->Option Jf) (y:Jq),(∀f∈names,y≠Qb f)->v y=Jb->addF m names v y=Jb
 |[]=>λv y o0 h=>h
 |x::s=>λv y q h=>by
  rw[jx];refine qN m s _ y (λf j=>q f<|.tail _ j) ?_;rw[Y9 (q x<|.head _)];exact h
section
variable{prog:Jn}{w:Jm}{A:Jj}{E:Jf->Je->Prop}
variable{nm q:Jq}{C N x:Jg}{bs bm:List Jf}{sn:List Jq}{sub:List Jf}{ab:Bool}{col:Option Bool}{dd:Option Jg}{k0 k1 k2 k3 k5:Option Jf}{newId:String}
structure Made(h₀:Ji)(e C:Jg)(vs:Array Jf)(mA:Jq->Option Jf)(h:Ji):Prop where
 keep:∀b o,b≠e->h₀.get? b=Ja o->h.get? b=Ja o
 inst:h.Inst e C mA
 obj:∃dx,h.get? e=Ja {cls:= .ref C,dict:=dx,data:= .fields vs,slots:= #[]}
 own:∀o dx,h.get? e=Ja o->o.dict=Ja dx->h₀.get? dx=Jb
theorem oY{env:Js}{m:Jq->Option Jf}{h₀ B:Ji}(j:env.scope.kind= .function)(V:env.kindOf (Qb "self")=Ja .local)(R:env.locals=L)(hs:m (Qb "self")=Ja (.ref e))
  (n:h₀.Ns L m)(X:L≠e)(T:J0 B bmE bm)(hC:B.get? C=Ja (JE nm q C N bs bm Jc sn sub ab col dd k0 k1 k2 k3 k5 newId))
  (Ls:Looks (Jt prog w) B (JY (.ref C) "__setattr__") (Ja<|.builtin "object.__setattr__"))(c:∀b o,B.get? b=Ja o->b≠e/\h₀.get? b=Ja o){Q:Flow->Je->Prop}:
  ∀ (names:List String) (body:List Jo) (K:Jq->Option Jf) (ns:List Jq) (s:Je),mIni sc names body=Jc->Made h₀ e C vs K s.heap->Within K ns->ns.length+names.length<=100->
   (∀x∈names,env.kindOf (Qb x)=Ja .local/\(∃v,m (Qb x)=Ja v)/\((Qb x==("__debug__":Jq))=Jd)/\Looks (Jt prog w) B (JY (.ref C)<|Qb x) Jb)->
   (∀W tk,Made h₀ e C vs (addF m names K) W->Q .next {s with heap:=W,toks:=tk})->Jh (Jt prog w) A (execs body env) Q E s
 |[]=>λbody K ns s D M i J hx k=>by
  rw[uZ D];exact JK<|k s.heap s.toks M
 |x::xs=>λbody K ns s D M i J hx k=>by
  obtain⟨p1,p2,p3,p4,r,rfl,I⟩:=rE D;obtain⟨x1,⟨v,x2⟩,x3,x4⟩:=hx x<|.head _;have O:=n.at' λo Z=>M.keep L o X Z;refine J4<|plainObj_wpAny_Assign_Attribute ?_ ?_
  ·refine J5 (YS j x1 (R▸O) x2 ?_) x3;refine J5 (YS j V (R▸O) hs ?_) (by decide+kernel);obtain⟨h,g,d,tk,os⟩:=s;have p:∀b o,B.get? b=Ja o->h.get? b=Ja o:=λb o Z=>M.keep b o (c b o Z).1 (c b o Z).2;refine rS (ns:=ns) (T.keeps p) (p _ _ hC) (x4.keeps p) (Ls.keeps p) M.inst (λW G S=> ?_) i (by rw[JU];exact zle (KF _ _)<|zb2 J rfl);refine oY (vs:=vs) j V R hs n X T hC Ls c xs r (λy=>if y=Qb x then Ja v else K y) (Qb x::ns) {heap:=W,gens:=g,drawn:=d,toks:=G,os:=os} I ?_ (Within.cons _ v i) (by simp only[KU] at J ⊢;exact zle (QU<|QI _ _ _) J) (λy hy=>hx y<|.tail _ hy) (λu t M'=> ?_)
   ·refine⟨λb o a Z=>S.keep b o a (λU l f F q=> ?_)<|M.keep b o a Z,S.inst,?_,λo l Z ed=> ?_⟩
    ·subst q;rw[M.own U _ f F] at Z;cases Z
    ·obtain⟨d0,h0⟩:=M.obj;obtain⟨⟨c1,d1,ac,aa⟩,f,F,P,e4,o0⟩:=S.obj _ h0;refine⟨d1,?_⟩;rw[f];simp only at F P e4;rw[F,P,e4]
    ·obtain⟨o',Y,o0⟩:=M.inst
     rcases S.fresh o l Z ed with q|⟨U,q1,q2⟩
     ·induction z:h₀.get? l with
      |none=>rfl
      |some oz=>
       by_cases H:l=e
       ·subst H;rw[Y] at q;cases q
       ·rw[M.keep l oz H z] at q;cases q
     ·exact M.own U l q1 q2
   ·rw[jx,x2] at k;exact k u t M'
  ·rfl
theorem lJ{h:Ji}{d:Drawn}(T:J0 h bmE bm){m:Jq->Option Jf}{rest:List Jf}{D:Jg}{S:Jp}{Q:Fin->Je->Prop}
  (M:h.get? C=Ja (JE nm q C N bs bm y sn sub ab col dd k0 k1 k2 k3 k5 "ValueError.__new__"))(B:h.Ns N m)(hi:m "__init__"=Ja (.ref D))(I:h.get? D=Ja S)(f:S.cls= .type "function")
  (z:∀W e,Heap.MadeExcOf h W e (.ref C) rest->Jh (Jt prog w) A (call (.ref D) (.ref e::rest)) (λr s'=>r= .none/\Q (.done<|.ret (.ref e)) s') E ⟨W,g,d,t,s⟩)(hrest:rest.length<=JJ):
  Jh (Jt prog w) A (Builtin.«type.__call__» ⟨.ref C::rest,[]⟩) Q E ⟨h,g,d,t,s⟩:=by
 have F:=PySem.F.excBase_ValueError
 repeat (first|with_reducible refine Jy M ?_|with_reducible refine wpAny_madeBy_exc M ?_|wp_step)
 refine codeAny_call_builtin_code (Code.quiet_builtin _ F.quiet) (wpAny_check_new_subT F T M ?_);refine codeAny_exc_new_subT F T M ?_ hrest;show Jh _ _ _ _ _ _;have kp:∀b o,h.get? b=Ja o->((h.push {cls:= .type "tuple",data:= .seq rest.toArray}).push {cls:= .ref C,data:= .fields #[.ref h.objs.size,.none,.none,.none,.bool Jd,.none]}).get? b=Ja o:=λb o e=>Qz _ (Qz _ e);have l:=kp _ _ M;have c:((h.push {cls:= .type "tuple",data:= .seq rest.toArray}).push
   {cls:= .ref C,data:= .fields #[.ref h.objs.size,.none,.none,.none,.bool Jd,.none]}).get? (h.objs.size+1)=Ja
   {cls:= .ref C,data:= .fields #[.ref h.objs.size,.none,.none,.none,.bool Jd,.none]}:=by heap_get
 have i:(Value.ref C::bm).contains (.ref C)=Jc:=by simp
 unfold isInstance
 repeat (first|with_reducible refine Jy c ?_|(with_reducible refine YV l ?_;rw[i])|wp_step)
 show Jh _ _ (JY (.ref C) _) _ _ _;refine wpAny_typeLookup_tail l (B.keeps kp) (T.keeps kp) F.mroIs F.init.lookup ?_;rw[hi];refine YJ<|YG ?_;unfold bindSpecial;refine YG<|wpAny_typeOf (T:="function") ⟨_,kp _ _ I,f⟩ ?_;rw[Ua (by decide)];refine YH<|YG (YI (z _ (h.objs.size+1) ⟨kp,WI<|Wf _,h.objs.size,c,WI<|Qy _,?_⟩) (λr s' n=> ?_) λo0 o0 x=>x)
 ·exact Qz _<|Heap.get?_push_at rfl rfl
 ·obtain⟨rfl,X⟩:=n
  wp_walk
  exact X
theorem vd{h:Ji}{d:Drawn}(T:J0 h bmE bm){m:Jq->Option Jf}{rest:List Jf}{D:Jg}{V:Jp}{Q:Jf->Je->Prop}
  (M:h.get? C=Ja (JE nm q C N bs bm c sn sub ab col dd k0 k1 k2 k3 k5 "ValueError.__new__"))(n:h.Ns N m)(hi:m "__init__"=Ja (.ref D))(I:h.get? D=Ja V)(f:V.cls= .type "function")
  (z:∀S e,Heap.MadeExcOf h S e (.ref C) rest->
   Jh (Jt prog w) (A.under (.builtin "type.__call__" ⟨.ref C::rest,[]⟩)) (call (.ref D) (.ref e::rest)) (λr s'=>r= .none/\Q (.ref e) s') E ⟨S,g,d,t,o⟩)(hrest:rest.length<=JJ):
  Jh (Jt prog w) A (call (.ref C) rest) Q E ⟨h,g,d,t,o⟩:=by
 have B:=tc_lookup;have R:=tc_bind<|.ref C;have Y:(⟨h,g,d,t,o⟩:Je).TypeIs (.ref C) "type":=⟨_,M,rfl⟩
 refine wpAny_call<|codeAny_of_tree ?_;show Jh _ _ (callAny (.ref C) _) _ _ _
 repeat (any_goals (first|assumption|with_reducible refine Jy M ?_|wp_step))
 refine⟨rfl,?_⟩;refine codeAny_call_builtin_at (Code.quiet_builtin _<|by decide+kernel) entry_typeCall<|wpAny_check_type_call_sub M (lJ T M n hi I f (λS e L=> ?_) hrest);exact z S e L
end
section
theorem l9{h S:Ji}(k:∀b o,h.get? b=Ja o->S.get? b=Ja o)(n:S.get? e=Jb):h.get? e=Jb:=by
 induction q:h.get? e with
 |none=>rfl
 |some o=>exact ns<|n.symm.trans (k e o q)
theorem yZ{C:Cx}{H D Y:Ji}{fl:List String}{ps:List PV}{m:Jq->Option Jf}(j:fl=C.flds c)(U:fl≠ [])(M:ps.length=fl.length)(k:(g=Jb/\∀n,m n=Jb)\/∃d,g=Ja d/\d≠e/\Y.Ns1 d m)
  (L:∀ (i:Nat) f v,fl[i]? =Ja f->vs[i]? =Ja v->m (Qb f)=Ja v)(hv:VRs C σ1 D ps vs)(kp:∀p v,VR C σ1 D p v->VR C σ1 Y p v)(T:∀x,(∀f∈fl,x≠Qb f)->m x=Jb)(r:∀d,g=Ja d->A3 (C.B.get? d=Jb) (σ1 d=Jb) (H.get? d=Jb)):FF C ⟨c,ps⟩ σ1 H Y g:=by
 have K:ps≠ []:=λq=>U<|List.eq_nil_of_length_eq_zero (M.symm.trans<|congrArg YF q)
 rcases k with⟨o0,o⟩|⟨d,rfl,o0,P,l,I,t,X,s,o0,S⟩
 ·exfalso;obtain⟨z,zs,rfl⟩:=WL U;obtain⟨p,Z,rfl⟩:=WL K;obtain⟨v,h,o0⟩:=hv.get 0 p rfl;exact ns<|(o _).symm.trans (L 0 z v rfl h)
 ·obtain⟨B,Q,G⟩:=r d rfl;refine .at_ K d P rfl B Q G t ⟨l,I,X,s,λi f p D Y=> ?_,λx q=>(S x).trans (T x λf R=>q f<|j▸R)⟩;obtain⟨v,h,a⟩:=hv.get i p Y;exact⟨v,(S _).trans (L i f v (j▸D) h),kp _ _ a⟩
theorem zX(h:a+n+2<L):a+1<L:=Km (Ki (KF a n)<|by decide) h
theorem wI(q:n<=50):([]:List Jq).length+n<=100:=(KR n).symm▸Qn q (by decide)
theorem IniAt.ex{B:Ji}{K:Frag}{k:Jg}{names:List String}(x:IniAt B K k names):ExCls B k:=by
 obtain⟨bm,N,nm,q,bs,sn,sub,ab,col,dd,k0,k1,k2,k3,k5,m,I,o,f,b,h,a,i,T⟩:=x;exact⟨nm,q,N,bs,bm,Jc,sn,sub,ab,col,dd,k0,k1,k2,k3,k5,_,h,T.hasType<|by decide+kernel⟩
inductive IM(h₁:Ji)(e k:Jg)(names:List String)(vs:List Jf)(s₁ s₂:Je):Prop
 |mk (t:Jg) (dx:Option Jg) (mA:Jq->Option Jf) (go:s₂.heap.get? e=Ja {cls:= .ref k,dict:=dx,data:= .fields #[.ref t,.none,.none,.none,.bool Jd,.none]}) (keep:∀b o,b≠e->h₁.get? b=Ja o->s₂.heap.get? b=Ja o)
  (hdi:(dx=Option.none/\∀n,mA n=Option.none)\/∃d,dx=Ja d/\d≠e/\s₂.heap.Ns1 d mA) (own:∀d,dx=Ja d->h₁.get? d=Option.none) (hm:∀ (i:Nat) f v,names[i]? =Ja f->vs[i]? =Ja v->mA (Qb f)=Ja v) (ho:∀x,(∀f∈names,x≠Qb f)->mA x=Option.none) (rest:Rest s₁ s₂):IM h₁ e k names vs s₁ s₂
theorem IM.rm{C:Cx}{W:Ji}{s s₁ u l:Je}{names:List String}{ps:List PV}(i:IM W e k names vs u l)(R:Rest s₁ u)(kp:∀b o,s₁.heap.get? b=Ja o->W.get? b=Ja o)(new:s₁.heap.get? e=Jb)(m:Sim C σ1 s₁.heap)(P:Step none1 σ s.heap σ1 s₁.heap)(hv:VRs C σ1 s₁.heap ps vs)(f:names=C.flds c)(h:names≠ [])(T:ps.length=names.length):RM C c k (ps.take names.length) σ1 s.heap s₁ (.ref e) l:=by
 obtain⟨t,g,v,I,keep,G,own,L,a,y⟩:=i;have p:∀b o,s₁.heap.get? b=Ja o->l.heap.get? b=Ja o:=λb o q=>keep b o (λz=>ns<|new.symm.trans (z▸q))<|kp b o q;rw[Yj (QU T)];refine⟨e,t,g,rfl,new,I,p,R.trans y,yZ f h T G L hv (λo0 o0 r=>r.step<|Step.more (S:=none1) p) a λd q=> ?_⟩;have dH:=l9 kp<|own d q;exact⟨(dt m dH).1,(dt m dH).2,P.live _ dH⟩
theorem s6{C:Cx}{A:Jj}{nm q:Jq}{bs bm:List Jf}{sn:List Jq}{sub:List Jf}{oI:Jp}{S:Jr}{names:List String}{vs:List Jf}{s:Je}{E:Jf->Je->Prop}
  (kB:∀b o,C.B.get? b=Ja o->b≠e/\s.heap.get? b=Ja o)(K:s.heap.get? e=Ja {cls:= .ref k,data:= .fields #[.ref t,.none,.none,.none,.bool Jd,.none]})(P:A.depth<JZ)(F:C.B.NoLimit)(aa:vs.length=names.length)(j:Frag.In C.K C.B)(ad:∀f∈names,findIn C.K (.ref k) (Qb f)=Ja Jb)
  (hC:C.B.get? k=Ja (JE nm q k N bs bm Jc sn sub ab col dd k0 k1 k2 k3 k5 newId)) (T:J0 C.B bmE bm) (I:C.B.get? fI=Ja oI) (ah:oI.data= .func S) (V:C.B.CodeRec S.code S.qualname) (ae:S.body= .stmts body) (u:S.closure=[]) (l:YZ S ⟨.ref e::vs,[]⟩=pure ((("self"::names).map Qb).zip (.ref e::vs)))
  (h:∀x∈"self"::names,S.scope.names.lookup (Qb x)=Ja .local/\(Qb x==("__debug__":Jq))=Jd) (ac:("self"::names).Nodup) (af:S.scope.isCoroutine=Jd) (Q:S.scope.isGenerator=Jd) (O:S.scope.kind= .function)
  (y:mIni S.scope names body=Jc) (ak:findIn C.K (.ref k) "__setattr__"=Ja (Ja<|.builtin "object.__setattr__")) (H:names.length<=50):
  Jh (Mo C) A (call (.ref fI) (.ref e::vs)) (λr s'=>r= .none/\IM s.heap e k names vs s s') E s:=by
 have p:∀b o,C.B.get? b=Ja o->s.heap.get? b=Ja o:=λb o q=>(kB b o q).2;refine wpAny_call<|codeAny_call_cells P (p _ _ I) ah (F.keeps p) (V.keeps p) ae l u (λx al=> ?_) (λm X=> ?_) af Q O
 ·have J:x.1∈("self"::names).map Qb:=(Kz (show(x.1,x.2)∈_ from al)).1;obtain⟨z,R,ez⟩:=Ql.mp J;rw[<-ez];exact .inl (h z R).1
 generalize L:callEnvC S s.heap.objs.size fI=n at X ⊢;have c:n.locals=s.heap.objs.size:=by rw[<-L];rfl
 have g:∀x,n.kindOf x=S.scope.names.lookup x:=λx=>by rw[<-L];rfl
 have aj:n.scope.kind= .function:=by rw[<-L];exact O
 have kp:∀b o,s.heap.get? b=Ja o->m.heap.get? b=Ja o:=X.toInCall.keep;have a:∀i z v,("self"::names)[i]? =Ja z->(Value.ref e::vs)[i]? =Ja v->bindL n.kindOf ((("self"::names).map Qb).zip (Value.ref e::vs)) (λo0=>Jb) (Qb z)=Ja v:=λi z v Y U=>
  lm _ _ _ i _ v (cQ ac) (by rw[Qs,Y];rfl) U (by rw[g];exact(h z<|QB Y).1)
 have Z:n.locals≠e:=by rw[c];exact WH<|QO K
 refine oY (sc:=S.scope) (vs:= #[.ref t,.none,.none,.none,.bool Jd,.none]) (h₀:=m.heap) (B:=C.B) (C:=k) (e:=e) aj (by rw[g];exact(h _<|.head _).1) rfl (a 0 "self" (.ref e) rfl rfl) X.toInCall.ns Z T hC (looks_findIn j ak) (λb o q=>⟨(kB b o q).1,kp b o (kB b o q).2⟩)
  names body (λo0=>Jb) [] m y ⟨λb o o0 eo=>eo,⟨_,kp _ _ K,rfl,(λcc q=>by cases q),.inl ⟨rfl,λo0=>rfl⟩⟩,⟨Jb,kp _ _ K⟩,λo dx eo ed=>by obtain rfl:=sj<|(kp _ _ K).symm.trans eo;exact ns ed⟩ Within.nil (wI H) (λz R=> ?_) (λU am M=> ?_)
 ·obtain⟨i,G,rfl⟩:=Wi R;have W:i<vs.length:=aa.symm▸G;refine⟨by rw[g];exact(h _<|.tail _ R).1,⟨vs[i],a (i+1) _ _ (by rw[List.getElem?_cons_succ];exact Qi G)<|by rw[List.getElem?_cons_succ];exact Qi W⟩,(h _<|.tail _ R).2,looks_findIn j<|ad _ R⟩
 ·obtain⟨dx,go⟩:=M.obj;obtain⟨ao,an,D⟩:=X.toInCall.same;obtain⟨oi,gi,o0,o0,ai⟩:=M.inst;obtain rfl:=sj<|go.symm.trans gi;exact⟨rfl,t,dx,_,go,λb o hb q=>M.keep b o hb<|kp b o q,ai,λd q=>l9 kp<|M.own _ d go q,λi f v Y U=>(nN _ _ _ _<|.inl (Ql.mpr ⟨f,QB Y,rfl⟩)).trans (a (i+1) f v Y U),λx q=>qN _ _ _ _ q rfl,⟨by rw[D],by rw[D]⟩⟩
theorem so{C:Cx}{G:Gx}{S K:Jq->Option Jf}(g:GOK C G S K)(X:ExcOK C G S K)(U:C.calm){args:List E}(w3:G.inis.contains c=Jc)(Y:args.length=(G.flds c).length){sc:Jk}{as:List Jl}{py p q:Pos}(h5:sc.names.lookup (Qb c)=Ja .globalImplicit)(h6:bD (Qb c)=Jc)(h3:as.length<=20)(ha:Evs C G n sc args as):StK C G n sc (.raise c args) (.Raise (Ja (.Call (.Name (Qb c) py) as [] p)) Jb q):=by
 obtain⟨k,j,I⟩:=X.ini c w3;refine lR g X U j I.ex ?_ h5 h6 h3 ha;obtain⟨bm,N,nm,q',bs,sn,sub,ab,col,dd,k0,k1,k2,k3,k5,mN,fI,oI,fd,y,hC,hN,hi,T,D,Z,J,W,R,u,i,a,O,z,Q,d,B,V,H⟩:=I;intro A l σ aa s M ps vs E ak hv m P F hl;have v:vs.length=(G.flds c).length:=(hv.length.trans F).trans Y;refine vd (T.keeps m.base) (m.base _ _ hC) (hN.keeps m.base) hi (m.base _ _ D) Z (λh' e hx=> ?_) hl;obtain⟨t,e1,o0,o0⟩:=hx.there;refine YI (s6 (e:=e) (λb o L=>⟨λq=>ns<|(dt m hx.new).1.symm.trans (q▸L),hx.keeps b o<|m.base b o L⟩) e1 (zX ak.depth) g.nolimit v X.kin (λf hf=>X.fld c k _ j hf) hC T D J W R u (i _ (Ud (· +1) v)) a O z Q d B V H.2) (λr s2 h=>⟨h.1,h.2.rm ⟨rfl,rfl⟩ hx.keeps hx.new m P hv (X.fl c) H.1<|F.trans Y⟩) λo0 o0 x=>x
theorem p0{C:Cx}{U m:Jq->Option Jf}(g:GOK C G U m)(X:ExcOK C G U m)(a:C.calm){args:List E}{sc:Jk}{as:List Jl}{py p q:Pos}(B:sc.names.lookup (Qb c)=Ja .globalImplicit)(W:bD (Qb c)=Jc)(J:as.length<=20)(T:Evs C G n sc args as):StK C G n sc (.raise c args) (.Raise (Ja (.Call (.Name (Qb c) py) as [] p)) Jb q):=λI w=>by
 rcases w.1.2.2 with h|h
 ·exact pf g X a h B W J T I w
 ·exact so g X a h.1 h.2 B W J T I w
end
end
section
open PySem.W PyProof.Rows
section
variable{C:Cx}{G:Gx}{mg mb:Jq->Option Jf}{n:Nat}{A:Jj}{Er:Jf->Je->Prop}{env:Js}{ρ:Rho}{σ:PH}{s:Je}{l:List Js}
theorem r7{g W:Jp}{Q:Unit->Je->Prop}(O:s.heap.get? a=Ja g)(v:g.data= .fields vs)(N:vs[1]? =Ja (.ref T))(Y:s.heap.get? T=Ja W)(U:W.data= .fields t)
  (J:t[3]? =Ja .none)(h:∀S,(∀b o,s.heap.get? b=Ja o->S.get? b=Ja o)->Q () {s with heap:=S}):Jh (Mo C) A (JS (.ref a) Jb) Q Er s:=by
 have z:=(KG.mp J).1;refine wpAny_setFlight_none O v N Y U z (h _ λb o e=> ?_);have same:t.setIfInBounds 3 .none=t:=by
  apply Array.ext
  ·simp
  ·intro i N p;rw[Array.getElem_setIfInBounds]
   split
   ·rename_i q;subst q;exact((KG.mp J).2).symm
   ·rfl
 have P:W.mapFields (·.setIfInBounds 3 .none)=W:=by
  obtain⟨c,d,X,B⟩:=W;simp only at U;subst U;simp only[Obj.mapFields,same]
 by_cases q:b=T
 ·subst q;obtain rfl:=sj<|Y.symm.trans e;rw[QY _ Y (Obj.isFreed_of_fields<|Obj.data_mapFields U _),P]
 ·rw[KH _ _ (λe=>q e.symm)];exact e
theorem EnvR.stepF{S:Jg->Prop}{h u:Ji}(x:EnvR C env ρ σ h)(st:Step S σ h σ' u)(R:∀b o,S b->h.get? b=Ja o->∃vs,o.data= .fields vs):EnvR C env ρ σ' u where
 fn:=x.fn
 glob:=x.glob
 blt:=x.blt
 ns:=by
  obtain⟨m,F,hv⟩:=x.ns;refine⟨m,Ns.like F λo e=> ?_,λy p T w=>by obtain⟨v,a,b⟩:=hv y p T w;exact⟨v,a,b.step st⟩⟩;obtain⟨o0,i,g,k⟩:=st.keep _ o e x.newL;obtain⟨P,U,H,w,W,o0⟩:=F;obtain rfl:=sj<|e.symm.trans w;exact⟨i,g,k λf=>by obtain⟨vs,q⟩:=R _ o f e;rw[W] at q;cases q⟩
 cell:=λy p T w=>by
  obtain⟨c,v,a,b,d⟩:=x.cell y p T w;refine⟨c,v,a,IsCell.like b λo e=> ?_,d.step st⟩;obtain⟨o0,i,g,k⟩:=st.keep _ o e (x.newC _ c a).1;obtain⟨P,w,W⟩:=b;obtain rfl:=sj<|e.symm.trans w;exact⟨i,g,k λf=>by obtain⟨vs,q⟩:=R _ o f e;rw[W] at q;cases q⟩
 newL:=by
  obtain⟨m,⟨o,U,H,e,o0⟩,o0⟩:=x.ns;exact(st.keep _ o e x.newL).1
 newC:=λy c e=>by
  obtain⟨a,v,o,b,d⟩:=x.newC y c e;obtain⟨q,i,g,k⟩:=st.keep _ o b a;exact⟨q,v,i,g,(k λf=>by obtain⟨vs,q⟩:=R _ o f b;rw[d] at q;cases q).2.2.1.trans d⟩
 baseL:=x.baseL
 baseC:=x.baseC
 apart:=x.apart
 hasC:=x.hasC
theorem AOK.stepF{S:Jg->Prop}{h W:Ji}(x:AOK C n A l σ h)(st:Step S σ h σ' W)(R:∀b o,S b->h.get? b=Ja o->∃vs,o.data= .fields vs):AOK C n A l σ' W:=
 ⟨x.depth,x.units,x.stack,(x.frs.step st λd e L w f=>by
  obtain⟨o0,r,i,U,m,T,o0,o0,u,V⟩:=x.frs d e;obtain rfl:=sj (w.symm.trans T);obtain⟨vs,q⟩:=R L i f u;rw[V] at q;cases q),x.calm⟩
theorem AK{fl:Fl}(x:FR C.un σ h fl f):FR C σ h fl f:=by
 induction fl with
 |next=>exact x
 |ret p=>obtain⟨v,e,hv⟩:=x;exact⟨v,e,by rw[iK] at hv;exact hv⟩
end
end
section
open PySem.W PyProof.Rows
noncomputable def came(e:Jf)(env:Js):Sem Unit:=do
 if(<-field e 1)== .none then unsupported "frame.own-activation:exception-without-traceback"
 JS e env.frame
section
variable{C:Cx}{G:Gx}{mg mb:Jq->Option Jf}{n:Nat}{A:Jj}{env:Js}{ρ:Rho}{σ:PH}{s:Je}{l:List Js}
theorem SX.pass(tf:TopF env l)(x:SX C n A l env σ s X e s'):notedBy (Mo C) A env (cameBackBy (Mo C) A env (SX C n A l env σ s X)) e s':=by
 obtain⟨D,j,m,fl,v,c,P,r,k,w⟩:=x;obtain⟨M,rfl,h⟩:=id tf;have key:=jM (fo:=env.frame) (K:=came e env) (Er:=λo0 o0=>False) (Q:=λo0 W=>SX C n A (env::M) env σ s X e W) k.stack k.frs h c fl (λL q=>by obtain rfl:=sj<|h.symm.trans q;rfl) P (λa t i U T y N p H R=> ?_) λS I f o O E=> ?_
 ·exact YI key (λo0 b p=>YI p (λo0 o0 z=>z) λo0 o0 z=>z.elim) λo0 o0 z=>z.elim
 ·subst y;unfold came;refine YG<|YL N p H ?_;rw[Y9 (show ¬ ((Value.ref T==Value.none)=Jc) from QC)];exact R
 ·obtain⟨F,stF,J⟩:=O;exact⟨D,j,m,f,v.stepF stF J,I,o,r,k.stepF stF J,w⟩
structure WhAt(C:Cx)(env:Js)(n:Nat)(A:Jj)(l:List Js)(go:Rho->PH->Prop)(σ:PH)(s:Je)(ρ':Rho)(σ':PH)(s':Je):Prop where
 m:Sim C σ' s'.heap
 ev:EnvR C env ρ' σ' s'.heap
 step:Step (ownE env) σ s.heap σ' s'.heap
 rest:Rest s s'
 ak:AOK C n A l σ' s'.heap
 go:go ρ' σ'
theorem sR(ht:TsOK C G n sc t u)(hb:StsK C G n sc b y):StK C G n sc (.while_ t b) (.While u y [] pos):=λ{env ρ A l σ s Q X} R w=>by
 obtain⟨o0,k,w⟩:=w;refine wpAny_While<|codeAny_whileLoop (λi s'=>∃O Y,WhAt C env n A l (whGo (λρ σ K=>we G (aO C n) t ρ σ (λv m=>cV (λc=>K c m) v) λx m=>X x ρ m) (λρ σ K=>wss G (aO C n) (aO C.un n) b ρ σ K X) Q i) σ s O Y s') ?_ k ⟨ρ,σ,R.m,R.ev,.refl _ _ _,.refl s,R.ak,w⟩;intro i s' hI;obtain⟨O,Y,I⟩:=hI
 induction i using Nat.casesOn with
 |zero=>exact I.go.elim
 |succ j=>
  have V:∀ {m:PH} {W:Je} {e:Jf} {g:Je},Step (ownE env) σ s.heap m W.heap->Rest s W->SX C n A l env m W X e g->notedBy (Mo C) A env (cameBackBy (Mo C) A env<|SX C n A l env σ s X) e g:=λst r z=>SX.pass R.tf (SX.from st r z);refine YI (ht (K:=λc m=>if c then wss G (aO C n) (aO C.un n) b O m (onFl (λZ L=>whGo (λρ σ K=>we G (aO C n) t ρ σ (λv m=>cV (λc=>K c m) v) λx m=>X x ρ m) (λρ σ K=>wss G (aO C n) (aO C.un n) b ρ σ K X) Q j Z L) Q) X else Q .next O m) (X:=λx m=>X x O m) ⟨R.sr,I.ev,I.m,I.ak⟩ I.go) (λc W h=> ?_) λe g z=>V I.step I.rest<|XP.stmt I.ev I.ak z
  ·obtain⟨m,N,P,r1,w1⟩:=h;have d:=I.ev.step P;have B:=I.ak.step P;have o:=I.step.trans P.own;have M:=I.rest.trans r1
   induction c with
   |false=>exact JK ⟨.next,O,m,rfl,d,N,o,M,B,w1⟩
   |true=>
    refine YI (hb ⟨⟨R.sr,d,N,B⟩,R.tf⟩ w1) (λf s3 hf=> ?_) λe s3 z=>V o M z;obtain⟨fl,T,D,F,J,m3,H,U,a,q⟩:=hf
    induction fl with
    |next=>
     simp only[FR] at F;subst F;exact⟨j,QN j,T,D,m3,J,o.trans H,M.trans U,a,q⟩
    |ret p=>
     obtain⟨v,rfl,hv⟩:=F;exact⟨.ret p,T,D,⟨v,rfl,hv⟩,J,m3,o.trans H,M.trans U,a,q⟩
end
end
section
open PySem.W PyProof.Rows
structure Caught(C:Cx)(G:Gx)(n:Nat)(A:Jj)(l:List Js)(env:Js)(σ:PH)(s:Je)(px:PX)(ρ1:Rho)(σ1:PH)(s1:Je)(a:Jg)(oe:Jp)(vs:Array Jf)(T:Jg)(oT:Jp)(ts:Array Jf)(k:Jg):Prop where
 at_:s1.heap.get? a=Ja oe
 dat:oe.data= .fields vs
 tb:vs[1]? =Ja (.ref T)
 hT:s1.heap.get? T=Ja oT
 dT:oT.data= .fields ts
 nT:ts[3]? =Ja Value.none
 cls:C.cls px.c=Ja k
 ocl:oe.cls= .ref k
 odi:FF C px σ1 s.heap s1.heap oe.dict
 m:Sim C σ1 s1.heap
 ev:EnvR C env ρ1 σ1 s1.heap
 ak:AOK C n A l σ1 s1.heap
 st:Step (ownE env) σ s.heap σ1 s1.heap
 rest:Rest s s1
section
variable{C:Cx}{G:Gx}{mg mb:Jq->Option Jf}{n:Nat}{A:Jj}{l:List Js}{env:Js}{σ:PH}{s:Je}{px:PX}{ρ1:Rho}{σ1:PH}{s1:Je}{a:Jg}{oe:Jp}{vs:Array Jf}{T:Jg}{oT:Jp}{ts:Array Jf}{k:Jg}
theorem FF.inst{h₀ h:Ji}{oe:Jp}(f:FF C x σ h₀ h oe.dict)(g:h.get? a=Ja oe)(v:oe.data= .fields vs)(c:oe.cls= .ref k):∃D,InstAt h a oe k D:=by
 induction f with
 |no _ e=>exact⟨Jb,g,c,by simp[notCls,v],by rw[e];trivial⟩
 |at_ _ d o e _ _ _ t _=>exact⟨Ja o,g,c,by simp[notCls,v],by rw[e];exact t⟩
theorem vF(g:GOK C G mg mb)(X:ExcOK C G mg mb)(F:StsK C.un G.un n sc h (b::r))(K:ScR sc env)(tf:TopF env l)
  (v:Caught C G n A l env σ s px ρ1 σ1 s1 a oe vs T oT ts k)(B:G.cs.contains c=Jc)(Y:glb sc c t=Jc)
  (w:G.sub px.c c=Jc->wss G.un (aO C.un n) (aO C.un n) h ρ1 σ1 Q λo0 o0 o0=>False)
  (wn:G.sub px.c c=Jd->Jh (Mo C) A (handleBy (.ref a) env rest) (SP C n A l env σ s Q) (SX C n A l env σ s H) s1):
  Jh (Mo C) A (handleBy (.ref a) env (.ExceptHandler (Ja t) Jb (b::r) p::rest)) (SP C n A l env σ s Q) (SX C n A l env σ s H) s1:=by
 obtain⟨D,rfl,L,W⟩:=kc Y;obtain⟨o,I⟩:=v.odi.inst v.at_ v.dat v.ocl;obtain⟨U,d⟩:=X.has c B;refine wpAny_handleBy_cons (codeAny_handlers_test<|im g v.ev v.m (K.glob _ L) W (X.cls c U d) ((exm_one (M:=Mo C) (X.kin.keeps v.m.base) I.type<|X.sub _ _ _ _ v.cls d).here ?_))<|by intro q;cases q
 induction u:G.sub px.c c with
 |false=>exact wn u
 |true=>
  refine codeAny_handlers_suite (r7 (C:=C) v.at_ v.dat v.tb v.hT v.dT v.nT λY kp=> ?_);have sk:Step none1 σ1 s1.heap σ1 Y:= .more kp;refine YI (F (s:={s1 with heap:=Y}) (A:=A.mark<|Ja (.ref a)) ⟨⟨K,(v.ev.step sk).un,(v.m.more kp).un,(v.ak.step sk).un⟩,tf⟩<|w u) (λf x j=> ?_) λo0 o0 z=>SX.none z;obtain⟨Z,i,m,E,e,y,V,O,P,q⟩:=j;exact⟨Z,i,m,AK E,e.re,y.re,(v.st.trans sk.own).trans V,v.rest.trans O,P.re v.ak,q⟩
theorem vr{E:Rho}(hb:StsK C G n sc b y)(I:AtS C n sc env E A l σ s)
  (w:wss G (aO C n) (aO C.un n) b E σ Q W)
  (h:∀px ρ1 σ1 s1 a oe vs T oT ts k,Caught C G n A l env σ s px ρ1 σ1 s1 a oe vs T oT ts k->W px ρ1 σ1->Jh (Mo C) A (handleBy (.ref a) env (i::H)) (SP C n A l env σ s Q) (SX C n A l env σ s X) s1):
  Jh (Mo C) A (exec (.Try y (i::H) [] [] pos) env) (SP C n A l env σ s Q) (SX C n A l env σ s X) s:=by
 refine wpAny_Try_except ?_;refine YI (hb I w) (λf s1 hf=> ?_) λe s1 hx=> ?_
 ·obtain⟨fl,ρ1,σ1,L,m,c,t,d,B,q⟩:=hf
  induction fl with
  |next=>
   simp only[FR] at L;subst L;exact JK ⟨.next,ρ1,σ1,rfl,m,c,t,d,B,q⟩
  |ret v=>
   obtain⟨u,rfl,hv⟩:=L;exact⟨.ret v,ρ1,σ1,⟨u,rfl,hv⟩,m,c,t,d,B,q⟩
 ·obtain⟨px,ρ1,σ1,fl,m,c,t,d,B,w⟩:=hx;obtain⟨l',rfl,r⟩:=id I.tf;refine jM (K:=JS e Jb) B.stack B.frs r c fl (λL' q=>by obtain rfl:=sj<|r.symm.trans q;rfl) t (λo0 o0 o0 o0 o0 o0 o0 o0 o0 z=>z) λR m2 Z V O P=> ?_;obtain⟨F,stF,J⟩:=O;obtain⟨a,oe,vs,T,oT,ts,rfl,p,j,e3,e4,g,x,e7⟩:=P;obtain⟨a',o,aa,k,ea,q2,q3,q4,N,D,M,U,q9,ab,Y⟩:=Z;cases ea;obtain rfl:=sj<|p.symm.trans N;rw[j] at U;cases U;exact h px ρ1 σ1 {s1 with heap:=R} a oe vs T oT ts k ⟨p,j,e3,g,x,e7,D,M,Y,m2,m.stepF stF J,B.stepF stF J,V,d⟩ w
end
section
variable{C:Cx}{G:Gx}{mg mb:Jq->Option Jf}{n:Nat}
theorem tX(g:GOK C G mg mb)(X:ExcOK C G mg mb)(Y:glb sc c t=Jc)(R:StsK C G n sc b y)(f:StsK C.un G.un n sc h (U::r)):StK C G n sc (.try1 b c h) (.Try y [.ExceptHandler (Ja t) Jb (U::r) p] [] [] q):=λ{env L A l σ s Q H} I w=>by
 refine vr R I w.2 λpx ρ1 σ1 s1 a oe vs T oT ts k v m=> ?_;refine vF g X f I.sr I.tf v w.1.2.2 Y (λE=>by rw[Ua E] at m;exact m) λE=> ?_;rw[Y9 (by rw[E];exact QC)] at m;exact m.elim
theorem todoE(g:GOK C G mg mb)(X:ExcOK C G mg mb):Todo C G n:=⟨ss X,pr g X⟩
theorem ui(g:GOK C G mg mb)(X:ExcOK C G mg mb):Todo2 C G n:=⟨sR,λo0 h=>p0 g X h,λo0 o0=>tX g X⟩
end
end
section
open PySem.W PyProof.Rows
theorem ut{P:Jo->Prop}(h:mAsg sc f e x=Jc)(k:∀I r B v,isLoc sc (Qb "self")=Jc->bD (Qb "self")=Jc->kz v=Jc->mE sc e v=Jc->P (.Assign [.Attribute (.Name (Qb "self") I) (Qb f) r] v B)):P x:=
 oZ h λt v o J w=>wx (P:=λt=>P<|.Assign [t] v o) J λz p T o0 o0=>iP (P:=λz=>P<|.Assign [.Attribute z (Qb f) p] v o) T λq W S=>k q p o v W S (and2 w).1 (and2 w).2
structure Half(h:Ji)(x dx k:Jg)(mA:Jq->Option Jf):Prop where
 obj:∃o,A4 (h.get? x=Ja o) (o.cls= .ref k) (o.dict=Ja dx) (∀c,o.data≠ .cls c)
 ne:dx≠x
 ns:h.Ns1 dx mA
section
variable{C:Cx}{G:Gx}{mg mb:Jq->Option Jf}{n:Nat}{x dx k:Jg}{mA:Jq->Option Jf}{h h':Ji}{σ σ':PH}
theorem Half.inst(a:Half h x dx k mA):h.Inst x k mA:=by obtain⟨o,e,w,X,u⟩:=a.obj;exact⟨o,e,w,u,.inr ⟨dx,X,a.ne,a.ns⟩⟩
theorem Half.step(a:Half h x dx k mA)(st:Step none1 σ h σ' h')(i:σ x=Jb)(nd:σ dx=Jb):Half h' x dx k mA/\σ' x=Jb/\σ' dx=Jb:=by
 obtain⟨o,v,Z,Q,q⟩:=a.obj;obtain⟨W,F,e,N⟩:=st.keep x _ v i;obtain⟨U,K,P,o0⟩:=N λf=>f.elim;obtain⟨S,s,p,T,w,X⟩:=a.ns;obtain⟨V,d,u,l⟩:=st.keep dx _ T nd;exact⟨⟨⟨F,e,U.trans Z,K.trans Q,λc z=>q c<|P.symm.trans z⟩,a.ne,d,s,p,u,(l λf=>f.elim).2.2.1.trans w,X⟩,W,V⟩
theorem Half.noTup(a:Half h x dx k mA):∀vs n,h.get? dx≠Ja (tupO vs n):=λvs n q=>by
 obtain⟨o,s,p,e,w,o0⟩:=a.ns;obtain rfl:=sj<|e.symm.trans q;cases w
inductive NewAt(B:Ji)(k fI:Jg)(fl:List String):Prop
 |mk (nm q:Jq) (N:Jg) (bs:List Jf) (sn:List Jq) (sub:List Jf) (col:Option Bool) (dd:Option Jg) (k0 k1 k2 k3 k5:Option Jf) (mN:Jq->Option Jf) (hC:B.get? k=Ja (JE nm q k N bs [.type "object"] Jc sn sub Jd col dd k0 k1 k2 k3 k5 "object.__new__")) (hN:B.Ns N mN)
  (hi:mN "__init__"=Ja (.ref fI)) (hs:mN "__setattr__"=Option.none) (hf:∀f∈fl,mN (Qb f)=Option.none/\JY (.type "object") (Qb f)=pure Option.none):NewAt B k fI fl
theorem NewAt.keeps{B e:Ji}{fl:List String}(N:NewAt B k f fl)(kp:∀b o,B.get? b=Ja o->e.get? b=Ja o):NewAt e k f fl:=by
 obtain⟨nm,q,a,bs,sn,sub,c,d,S,P,U,F,O,m,M,W,i,s,w⟩:=N;exact⟨nm,q,a,bs,sn,sub,c,d,S,P,U,F,O,m,kp _ _ M,W.keeps kp,i,s,w⟩
theorem NewAt.kp{fl:List String}(N:NewAt C.B k f fl):Kp C (.ref k):=by
 obtain⟨nm,q,a,bs,sn,sub,c,d,S,P,U,F,O,m,M,o0⟩:=N;exact⟨.machine,.inr<|.inl rfl,λA Q E s kp q=>wpAny_keeperOf_exc (kp _ _ M) q⟩
structure Ini(C:Cx)(n:Nat)(A:Jj)(l:List Js)(env:Js)(ρ:Rho)(x dx k:Jg)(σ₀:PH)(s₀:Je)(mA:Jq->Option Jf)(ns:List Jq)(σ:PH)(s:Je):Prop where
 ev:EnvR C env ρ σ s.heap
 m:Sim C σ s.heap
 ak:AOK C n A l σ s.heap
 st:Step none1 σ₀ s₀.heap σ s.heap
 r:Rest s₀ s
 hf:Half s.heap x dx k mA
 nx:σ x=Jb
 nd:σ dx=Jb
 wi:Within mA ns
theorem tG{env:Js}{S:Rho}{s₀ s:Je}{ns:List Jq}{fl:List String}{P:PV->PH->Prop}{R:Flow->Je->Prop}{Er:Jf->Je->Prop}
  (hE:WB C G n e)(hm:mAsg sc f e y=Jc)(sr:ScR sc env)(I:Ini C n A l env S x dx k B s₀ mA ns σ s)(U:S.get "self"=Ja (.ref x))(N:NewAt C.B k fI fl)(i:f∈fl)(hz:ns.length<=100)(bd:C.B.get? dx=Jb)(bx:C.B.get? x=Jb)
  (d0:s₀.heap.get? dx=Jb)(fL:env.locals≠dx)(fc:∀y c,env.cells.lookup y=Ja c->c≠dx)(ff:∀en∈l,∀L,en.frame=Ja L->L≠dx)(w:we G (aO C n) e S σ P λo0 o0=>False)
  (kk:∀p v σ1 W,P p σ1->VR C σ1 W.heap p v->(∀q u,VR C σ s.heap q u->VR C σ1 W.heap q u)->Ini C n A l env S x dx k B s₀ (λz=>if z=Qb f then Ja v else mA z) (Qb f::ns) σ1 W->R .next W):Jh (Mo C) A (exec y env) R Er s:=by
 refine ut (P:=λy=>Jh (Mo C) A (exec y env) R Er s) hm λp1 p2 p4 v h1 h2 O h3=> ?_;obtain⟨nm,q,Na,bs,sn,sub,af,dd,k0,k1,k2,k3,k5,mN,hC,hN,hi,hs,hf⟩:=N;refine Y0 ?_<|g9 O rfl;refine YI ((hE sc v h3).1 ⟨sr,I.ev,I.m,I.ak⟩ w) (λv W hv=> ?_) λo0 o0 z=>XP.none z;obtain⟨p,σ1,K,a,H,r1,w1⟩:=hv;have m:=I.ev.step H;obtain⟨T,M,j⟩:=I.hf.step H I.nx I.nd;refine kR m (jB sr h1) h2 U λu hu=> ?_;rw[show u= .ref x from hu];obtain⟨Y,g,d,t,os⟩:=W;have aa:x≠k:=λz=>by rw[z,hC] at bx;exact Vl.Internal.sn bx
 refine store_attr F.store_object (a.base _ _ hC) (hN.keeps a.base) hs (hf f i).1 (hf f i).2 aa T.inst (λh' D I' keep same=> ?_) I.wi (zle hz<|by rw[JU];decide);obtain⟨ob,J,q2,Q,q4⟩:=T.obj;obtain⟨b,o1,o2,o3,o4,o5⟩:=same _ J;obtain rfl:b=ob:=by
  have o6:=(o5 dx Q).trans Q.symm;obtain⟨c1,d1,ai,ae⟩:=b;obtain⟨c2,d2,ad,ah⟩:=ob;simp only at o2 o3 o4 o6;subst o2 o3 o4 o6;rfl
 have X:h'.get? x=Y.get? x:=o1.trans J.symm;have mv:Mv (· ∈ [dx]) Y h':=λc o f e=>by
  by_cases z:c=x
  ·rw[z] at e ⊢;exact X.trans e
  ·exact keep c o z (λab ac e0 V q=>by obtain rfl:=sj<|J.symm.trans e0;obtain rfl:=sj<|Q.symm.trans V;exact f<|Qj.mpr q) e
 have Z:Fok C σ1 Y (· ∈ [dx]):=λc f=>by have f:=Qj.mp f;subst f;exact⟨bd,j,T.noTup⟩
 have ne:∀ {c:Jg},c≠dx->¬c∈ [dx]:=λz q=>z<|Qj.mp q;refine kk p v σ1 ⟨h',g,d,D,os⟩ w1 (K.mv mv Z) (λq u r=>(r.step H).mv mv Z) ⟨m.mv mv Z (ne fL) λy c q=>ne<|fc y c q,a.mv mv Z,(I.ak.step H).mv mv λen he L q=>ne<|ff en he L q,(I.st.trans H).mv mv λc f=>by rw[Qj.mp f];exact d0,I.r.trans ⟨r1.1,r1.2⟩,⟨⟨b,o1,q2,Q,q4⟩,T.ne,?_⟩,M,j,Within.cons _ v I.wi⟩;obtain⟨o,V,e2,e3,e4⟩:=I';obtain rfl:=sj<|o1.symm.trans V
 rcases e4 with⟨q,o0⟩|⟨d',q,o0,e5⟩
 ·exact Vl.Internal.sn<|Q.symm.trans q
 ·obtain rfl:=sj<|Q.symm.trans q;exact e5
theorem AOK.call{A:Jj}(a:AOK C (n+2) A l σ h)(st:Step none1 σ h σ' h'):AOK C (n+1) (A.under (.builtin "type.__call__" ⟨.ref k::vs,[]⟩)) l σ' h':=by
 have a:=a.step st;refine⟨?_,?_,a.stack,a.frs,a.calm⟩
 ·show A.depth+(0+1+0+0)+(n+1)+2<_;exact Km (Kl (QU<|by rw[QI,Yl A.depth (n+1)]) 2) a.depth
 ·have:=a.units;show A.units+_+30*(n+1)+300<_;refine Km (Kl ?_ 300) this;rw[QI];exact KL (show _<=30 from WD rfl)<|A.units+30*(n+1)
theorem n7{env:Js}{d:Rho}{s₀:Je}{fl:List String}{R:Flow->Je->Prop}{Er:Jf->Je->Prop}(K:ScR sc env)(U:d.get "self"=Ja (.ref x))(N:NewAt C.B k fI fl)(bd:C.B.get? dx=Jb)(b:C.B.get? x=Jb)
  (Z:s₀.heap.get? dx=Jb)(F:env.locals≠dx)(Y:∀y c,env.cells.lookup y=Ja c->c≠dx)(j:∀en∈l,∀L,en.frame=Ja L->L≠dx):∀ (V:List String) (es:List E) (ys:List Jo) (mA:Jq->Option Jf) (ns:List Jq) (σ:PH) (s:Je) (P:List PV->PH->Prop),mAsgs sc V es ys=Jc->(∀e∈es,WB C G n e)->(∀f∈V,f∈fl)->ns.length+V.length<=100->V.Nodup->
  Ini C n A l env d x dx k a s₀ mA ns σ s->wes G (aO C n) es d σ P (λo0 o0=>False)->
  (∀ps vs σ1 W m J,P ps σ1->VRs C σ1 W.heap ps vs->(∀q u,VR C σ s.heap q u->VR C σ1 W.heap q u)->(∀ (i:Nat) f p,V[i]? =Ja f->ps[i]? =Ja p->∃u,m (Qb f)=Ja u/\VR C σ1 W.heap p u)->(∀z,(∀f∈V,z≠Qb f)->m z=mA z)->Ini C n A l env d x dx k a s₀ m J σ1 W->R .next W)->Jh (Mo C) A (execs ys env) R Er s
 |[],es,ys=>λmA ns σ s P Q o0 o0 o0 o0 I w D=>by
  rcases es with o0|⟨o0,o0⟩<;>rcases ys with _|⟨_,_⟩<;>try exact ft Q
  exact JK<|D [] [] σ s mA ns w rfl (λo0 o0 r=>r) (λi f p q=>by rw[List.getElem?_nil] at q;exact Vl.Internal.ns q) (λo0 o0=>rfl) I
 |f::V,es,ys=>λmA ns σ s P Q M X T nd I w D=>by
  rcases es with o0|⟨e,es⟩<;>rcases ys with _|⟨y,ys⟩<;>try exact ft Q
  obtain⟨h1,h2⟩:=Qg.mp (show(mAsg sc f e y&&mAsgs sc V es ys)=Jc from Q);obtain⟨nf,nd⟩:=Qx.mp nd;refine J4 (tG (M e<|.head _) h1 K I U N (X f<|.head _) (Qn (KF _ _) T) bd b Z F Y j w λp v σ1 W w1 H keep I1=> ?_);refine n7 K U N bd b Z F Y j V es ys _ _ _ _ _ h2 (λe he=>M e<|.tail _ he) (λf hf=>X f<|.tail _ hf) (by rw[KU] at T ⊢;exact Qn (QU<|Nat.succ_add _ _) T) nd I1 w1 λps vs O s2 m J hp hv B t o I2=> ?_;refine D (p::ps) (v::vs) O s2 m J hp ⟨v,vs,rfl,B _ _ H,hv⟩ (λq u r=>B _ _<|keep _ _ r) (λi g q S hq=> ?_) (λz T=> ?_) I2
  ·induction i using Nat.casesOn with
   |zero=>
    obtain rfl:=sj S;obtain rfl:=sj hq;exact⟨v,(o (Qb f) λg S z=>nf<|by rw[ofString_inj z];exact S).trans (Ua rfl),B _ _ H⟩
   |succ i=>exact t i g q S hq
  ·exact(o z λg S=>T g<|.tail _ S).trans (Y9<|T f (.head _))
theorem pY(g:GOK C G mg mb){oI:Jp}{fd:Jr}{r as:List String}(Z:C.icl c=Ja k)(au:C.fv c=Ja (.ref k))(kp:Kp C (.ref k))(N:NewAt C.B k fI r)(F:FnIn C.B ("self"::as) fI oI fd ys)(ao:oI.cls= .type "function")(ai:mAsgs fd.scope r es ys=Jc)
  (W:C.flds c=r)(ar:r.Nodup)(aj:r.length<=50)(T:∀e∈es,WB C G n e){ps:List PV}(hl:ps.length=as.length)(B:List String)
  (w:∀x,σ x=Jb->wes G (aO C n) es (rho0 ("self"::as) B (.ref x::ps)) σ (λP O=>∀d a,O d=Jb->O a=Jb->d≠a->Q (.ref a) ((O.set d<|.fd c P).set a (.inst d))) λo0 o0=>False):aO C (n+2) c ps σ Q X:=by
 refine⟨.ref k,au,kp,λA l s S ak m hv=> ?_⟩;obtain⟨nm,q,Na,bs,sn,sub,ax,dd,k0,k1,k2,k3,k5,mN,hC,hN,hi,hs,hf⟩:=id N;obtain⟨hp,gg,dr,tk,os⟩:=s;refine wpAny_call_obj_init PySem.F.objNew (m.base _ _ hC) (hN.keeps m.base) hi (m.base _ _ F.ho) ao λh' x dx D=>wpAny_call ?_;have bx:C.B.get? x=Jb:=(dt m D.newX).1;have bd:C.B.get? dx=Jb:=(dt m D.newD).1;have t:Step none1 σ hp σ h':= .more D.keeps;have m0:Sim C σ h':=m.more D.keeps;obtain⟨o,ox,oc,ap,od⟩:=D.inst;have ac:AOK C (n+1) (A.under<|.builtin "type.__call__" ⟨.ref k::S,[]⟩) l σ h':=ak.call t;refine oH g F B (Ud (· +1) hl) (s:=⟨h',gg,dr,tk,os⟩) (vs:= .ref x::S) (args:= .ref x::ps) ac m0 ⟨.ref x,S,rfl,rfl,hv.step t⟩ λv J sr ev m1 H r1 an al Y b back=> ?_;have K:=D.dict o ox;obtain⟨ah,V⟩:dx≠x/\h'.Ns1 dx λo0=>Jb:=by
  rcases od with⟨q,o0⟩|⟨d',q,z1,z2⟩
  ·exact Vl.Internal.sn<|K.symm.trans q
  ·obtain rfl:=sj<|K.symm.trans q;exact⟨z1,z2⟩
 have M:σ x=Jb:=(dt m D.newX).2;have nd:σ dx=Jb:=(dt m D.newD).2;obtain⟨ae,aa,am⟩:=(Half.mk (k:=k) ⟨o,ox,oc,K,ap⟩ ah V).step H M nd;have R:dx<h'.objs.size:=by obtain⟨o0,o0,o0,z,o0⟩:=V;exact QO z
 have fL:v.locals≠dx:=by rw[Y];exact WH R
 have fc:∀y c,v.cells.lookup y=Ja c->c≠dx:=λy c q=>WH<|QJ R (b y c q);have ff:∀en∈v::l,∀L,en.frame=Ja L->L≠dx:=λen T L q=>by
  rcases Qw.mp T with rfl|T
  ·obtain rfl:=sj<|al.symm.trans q;exact fL
  ·obtain⟨o0,L',o',es,ep,z1,z2,z3,z4,z5⟩:=ak.frs en T;obtain rfl:=sj<|z1.symm.trans q;exact λz=>by rw[z,D.newD] at z4;exact Vl.Internal.ns z4
 have U:(rho0 ("self"::as) B (.ref x::ps)).get "self"=Ja (.ref x):=Ua rfl;have I0:Ini C n ((A.under<|.builtin "type.__call__" ⟨.ref k::S,[]⟩).deeper v) (v::l) v (rho0 ("self"::as) B (.ref x::ps)) x dx k σ ⟨hp,gg,dr,tk,os⟩ (λo0=>Jb) [] σ J:=⟨ev,m1,an,t.trans H,⟨r1.1,r1.2⟩,ae,aa,am,Within.nil⟩
 refine n7 sr U N bd bx D.newD fL fc ff r es ys _ _ _ _ _ ai T (λo0 q=>q) (Qn (QU<|KR _)<|Qn aj (by decide)) ar I0 (w x M) λP us O s2 aw ay w2 rv keep av ho I=>⟨rfl,?_⟩
 obtain⟨af,aq,ep,g1,g2,g3,g4,g5⟩:=I.hf.ns;obtain⟨o2,b1,b2,b3,b4⟩:=I.hf.obj;have ab:FD C O s2.heap c P af:=by
  refine⟨aq,ep,g2,g3,λi f p h1 h2=> ?_,λz hz=> ?_⟩
  ·rw[W] at h1;obtain⟨u,z1,z2⟩:=av i f p h1 h2;exact⟨u,(g5 _).trans z1,z2⟩
  ·rw[W] at hz;exact(g5 z).trans (ho z hz)
 have m3:=I.m.adopt (po:= .fd c P) I.nd I.hf.noTup g1 bd ab;have ad:(O.set dx<|.fd c P) x=Jb:=(PH.set_ne _ _<|Ne.symm I.hf.ne).trans I.nx;have m4:=m3.adopt (po:= .inst dx) ad (λws j z=>by obtain rfl:=sj<|b1.symm.trans z;cases b2) b1 bx ⟨c,k,Z,b2,b4,b3,_,PH.set_same _ _ _⟩;exact⟨.ref x,_,rfl,m4,(I.st.add _ D.newD nd).add _ D.newX M,I.r,w2 dx x I.nd I.nx I.hf.ne⟩
end
end
section
open PySem.W PyProof.Rows
theorem jC:∀ {as:List Jg},(ia h as).In h
 |[]=>λa o e=>by exact ns e
 |b::r=>λa o e=>by
  induction R:h.get? b with
  |none=>
   have:ia h (b::r)=ia h r:=by simp[ia,R]
   rw[this] at e;exact jC (as:=r) a o e
  |some C=>
   have:ia h (b::r)=(b,C)::ia h r:=by simp[ia,R]
   rw[this,Yp] at e;by_cases q:a=b
   ·subst q;rw[beq_self_eq_true] at e;obtain rfl:=sj e;exact R
   ·rw[beq_eq_false_iff_ne.mpr q] at e;exact jC (as:=r) a o e
theorem wN{K:Frag}{h:Ji}{m:Jq->Option Jf}(X:K.In h)(N:h.Ns a m)(e:nsIn K a x=Ja (Ja v)):m x=Ja v:=by
 obtain⟨o,s,p,w,W,o0,f⟩:=N;unfold nsIn at e
 induction l:K.lookup a with
 |none=>rw[l] at e;exact ns e
 |some b=>
  obtain⟨c,d,t,B⟩:=b;rw[l] at e;have:=X _ _ l;obtain rfl:=sj<|w.symm.trans this;cases W;dsimp only at e
  induction n:s.toList.find? (·.key.isStr x) with
  |some C=>
   rw[n] at e;cases e;rw[<-f];unfold nsFind findBy;rw[<-Array.find?_toList,n];rfl
  |none=>
   rw[n] at e;dsimp only at e;by_cases q:s.toList.any (·.refKey)=Jc
   ·exact ns<|(Ua q).symm.trans e
   ·rw[Y9 q] at e;cases e
end
theorem pt{ns:List Jq}:∀ {vs:List Jf},vs.length=ns.length->ns.Nodup->∀n∈ns,((ns.zip vs).lookup n).isSome=Jc:=by
 induction ns with
 |nil=>intro vs _ _ n h;cases h
 |cons a r i=>
  intro vs l d n h
  induction vs using List.casesOn with
  |nil=>simp at l
  |cons v vs=>
   simp only[Ws];by_cases q:n=a
   ·subst q;rw[lookup_cons_self];rfl
   ·rw[bU q];exact i (by simpa using l) (Qx.mp d).2 n ((Qw.mp h).resolve_left q)
theorem lL{ns:List Jq}:∀ {vs:List Jf},vs.length=ns.length->ns.Nodup->ns.filterMap (λn=>((ns.zip vs).lookup n).map (n,·))=ns.zip vs:=by
 induction ns with
 |nil=>intro vs _ _;rfl
 |cons a r W=>
  intro vs T d
  induction vs using List.casesOn with
  |nil=>simp at T
  |cons v vs=>
   simp only[Ws,List.filterMap_cons,lookup_cons_self,Wc]
   congr 1
   have key:∀l:List Jq,a∉l->l.filterMap (λn=>(YE n ((a,v)::r.zip vs)).map (n,·))=l.filterMap (λn=>((r.zip vs).lookup n).map (n,·)):=by
    intro l
    induction l with
    |nil=>intro _;rfl
    |cons b q i=>
     intro h;simp only[Qw,not_or] at h;simp only[List.filterMap_cons,bU (λe=>h.1 e.symm:b≠a),i h.2]
   rw[key r (Qx.mp d).1];exact W (by simpa using T) (Qx.mp d).2
theorem qT{L:Type}{a b:Sem L}(h:c=Jd):(if c=Jc then a else b)=b:=by rw[h];rfl
theorem iU{f:Jr}{as:List Arg}{z:List (Option Jl)}{ds:List Jl}{v:List Jf}(N:f.params={posonlyargs:=[],args:=as,vararg:=Jb,kwonlyargs:=[],kw_defaults:=z,kwarg:=Jb,defaults:=ds})
  (q:f.defaults= .none) (nd:(as.map (·.arg)).Nodup) (l:v.length=as.length):YZ f ⟨v,[]⟩=pure ((as.map (·.arg)).zip v):=by
 have h:v.length=(as.map (·.arg)).length:=by simpa using l
 have e:((as.map (·.arg)).filter λn=>(((as.map (·.arg)).zip v).lookup n).isNone)=[]:=by
  rw[Yk];intro n o;have:=pt h nd n o;simp[Option.isSome_iff_ne_none.mp this]
 have w:=lL h nd;have d:∀k,Yu k ([]:List Jf)=[]:=λk=>List.drop_nil;obtain⟨o0,o0,o0,o0,o0,o0,o0,o0,o0,o0,o0,o0,o0,o0,o0⟩:=f;cases N;cases q;unfold YZ;dsimp only[WG,KB];refine(qT (c:=decide (v.length>(as.map (·.arg)).length)&&Jc)<|by rw[h,Y7 (KJ _)];rfl).trans ?_;refine(qT (c:= !(Wg (λn=>(((as.map (·.arg)).zip v).lookup n).isNone) (List.take ((as.map (·.arg)).length-(Yu (0-(as.map (·.arg)).length) ([]:List Jf)).length) (as.map (·.arg)))).isEmpty)<|by rw[d,Wv,Nat.sub_zero,Kj,e];rfl).trans ?_;dsimp only[Option.getD_none];rw[d,List.zip_nil_right];show(pure (List.filterMap (λn=>Wj (λx=>(n,x)) (YE n ((as.map (·.arg)).zip v))) (as.map (·.arg)++[])):Sem (List<|Str×Jf))=_;rw[QH];exact Ud pure w
section
open PySem.W PyProof.Rows
theorem iV{ps:List String}(h:mX ps a=Jc):X3 λas k ds=>a={posonlyargs:=[],args:=as,vararg:=Jb,kwonlyargs:=[],kw_defaults:=k,kwarg:=Jb,defaults:=ds}/\as.map (·.arg)=ps.map Qb:=by
 obtain⟨p,as,v,o,k,w,ds⟩:=a
 induction p using List.casesOn with
 |cons=>exact bnx h
 |nil=>induction v with
  |some=>exact bnx h
  |none=>induction o with
   |cons=>exact bnx h
   |nil=>induction w with
    |some=>exact bnx h
    |none=>exact⟨as,k,ds,rfl,Ub h⟩
theorem cH{L:Type}{o:Option L}{p:L->Bool}(h:o.any p=Jc):∃x,o=Ja x/\p x=Jc:=by
 induction o with
 |none=>exact ft h
 |some x=>exact⟨x,rfl,h⟩
theorem ky(h:refOf o=Ja a):o=Ja (.ref a):=by
 induction o with
 |none=>exact ns h
 |some v=>induction v using Value.casesOn with
  |ref b=>obtain rfl:=sj h;rfl
  |_=>exact ns h
theorem mF{d:Data}(h:clsOf d=Ja c):d= .cls c:=by
 induction d with
 |cls b=>obtain rfl:=sj h;rfl
 |_=>exact ns h
theorem wz:my h b=Jc->J0 h bmE b:=by
 induction b with
 |nil=>exact λe=>ft e
 |cons v t i=>
  intro e
  rcases Wq.mp e with e|e
  ·rw[Ub e];exact .base
  ·obtain⟨A,r,e⟩:=cH e;obtain⟨⟨W,U,d,s⟩,o,e⟩:=cH e;obtain⟨I,c,e⟩:=cH e;obtain⟨T,w,X⟩:=and3 e;rw[sj (ky r)];have c:d= .cls I:=mF c;subst c;exact .own o (.of_isNs T) (Kd.mp w)<|i X
theorem rZ(h:ro l=Jc):X5 λS k U F O=>l=[S,k,U,F,Ja (.builtin "ValueError.__new__"),O]:=⟨_,_,_,_,_,Ub h⟩
theorem vN(e:mroOK h k l=Jc):∃b,l= .ref k::b/\my h b=Jc:=by
 induction l using List.casesOn with
 |nil=>exact ft e
 |cons v b=>
  obtain⟨K,c⟩:=Qg.mp e;exact⟨b,by rw[Ub K],c⟩
theorem nK{d:Data}(h:pQ d=Ja f):d= .func f:=by
 induction d with
 |func T=>obtain rfl:=sj h;rfl
 |_=>exact ns h
theorem og{d:FuncBody}(h:pD d=Ja b):d= .stmts b:=by
 induction d with
 |stmts c=>obtain rfl:=sj h;rfl
 |_=>exact ns h
theorem s9{o:Jp}{c:ClassData}{S P U F O:Option Jf}(N:o.cls= .type "type")(p:o.data= .cls c)(J:c.mro= .ref k::b)(w:c.hasDict=Jc)(B:c.hasDel=Jd)(W:o.slots.toList=[S,P,U,F,Ja (.builtin n),O]):
  o=JE c.name c.qualname k c.ns c.bases b Jc c.slotNames c.subclasses c.abstract c.collection o.dict S P U F O n:=by
 obtain⟨M,f,t,⟨s⟩⟩:=o;obtain⟨nm,bs,m,ns,q,h,sn,sub,a,l,d⟩:=c;cases N;cases p;cases J;cases w;cases B;cases W;rfl
inductive FnSeen(h:Ji)(names:List String)(oI:Jp):Prop
 |mk (fd:Jr) (body:List Jo) (hfc:oI.cls= .type "function") (hd:oI.data= .func fd) (cd:h.CodeRec fd.code fd.qualname) (hb:fd.body= .stmts body) (clo:fd.closure=[]) (bind:∀vals:List Jf,vals.length=names.length+1->YZ fd ⟨vals,[]⟩=pure ((("self"::names).map Qb).zip vals))
  (par:∀x∈"self"::names,fd.scope.names.lookup (Qb x)=Ja .local/\(Qb x==("__debug__":Jq))=Jd) (nd:("self"::names).Nodup) (co:fd.scope.isCoroutine=Jd) (gen:fd.scope.isGenerator=Jd) (kind:fd.scope.kind= .function) (mat:mIni fd.scope names body=Jc):FnSeen h names oI
theorem wR{names:List String}(M:fnObj h names o=Jc):FnSeen h names o:=by
 obtain⟨J,z⟩:=Qg.mp M;obtain⟨d,f,R⟩:=cH z;obtain⟨b,g,m⟩:=cH R;obtain⟨F,L,H,a⟩:=and4 m;have K:=and3 F;have Z:=and3 L;have c:=and3 H;obtain⟨s,k,E,N,q⟩:=iV Z.1;have nd:("self"::names).Nodup:=Y8 Z.2.2;refine⟨d,b,Ub J,nK f,.of_ok K.1,og g,List.isEmpty_iff.mp K.2.1,λv T=> ?_,λx hx=> ?_,nd,(QQ _).mp c.1,(QQ _).mp c.2.1,Ub c.2.2,a⟩
 ·have l:v.length=s.length:=by
   have:=Ud YF q;rw[Qd,Qd,KU] at this;rw[this];exact T
  rw[<-q];exact iU N (Ub K.2.2) (by rw[q];exact cQ nd) l
 ·obtain⟨Y,t⟩:=Qg.mp<|Qv.mp Z.2.1 x hx;exact⟨Ub Y,(QQ _).mp t⟩
theorem xY{h:Ji}{K:Frag}{k:Jg}{names:List String}(e:iniOK h K k names=Jc):IniAt h K k names:=by
 obtain⟨p,w,W,u⟩:=and4 e;obtain⟨o,d,V⟩:=cH p;obtain⟨c,v,E⟩:=cH V;obtain⟨f,Q,x⟩:=and3 E;have g:=and3 f;have X:=and3 Q;obtain⟨l,R,m⟩:=cH x;obtain⟨N,I,a⟩:=cH m;obtain⟨r,b,Y,z,i,D,L,j,M,B,G,n,S,T⟩:=wR a;obtain⟨Z,C,t⟩:=vN g.2.2;obtain⟨H,P,U,F,O,s⟩:=rZ g.2.1;have A:=d.trans<|congrArg Ja (s9 (Ub g.1) (mF v) C X.1 ((QQ _).mp X.2.1) s);exact⟨Z,c.ns,c.name,c.qualname,c.bases,c.slotNames,c.subclasses,c.abstract,c.collection,o.dict,H,P,U,F,O,h.nsMap c.ns,l,N,r,b,A,.of_isNs X.2.2,ky R,wz t,I,Y,z,i,D,L,j,M,B,G,n,S,T,Ub w,(λq=>by rw[q] at W;exact ft W),Y8 u⟩
theorem IniAt.keeps{h A:Ji}{K:Frag}{k:Jg}{names:List String}(I:IniAt h K k names)(kp:∀b o,h.get? b=Ja o->A.get? b=Ja o):IniAt A K k names:=by
 obtain⟨M,N,nm,q,bs,sn,sub,a,D,R,H,P,U,F,O,Y,V,S,r,d,C,L,t,T,G,f,J,W,B,c,i,p,u,x,g,n,m,s,l⟩:=I;exact⟨M,N,nm,q,bs,sn,sub,a,D,R,H,P,U,F,O,Y,V,S,r,d,kp _ _ C,L.keeps kp,t,T.keeps kp,kp _ _ G,f,J,W.keeps kp,B,c,i,p,u,x,g,n,m,s,l⟩
end
section
open PySem.W PyProof.Rows
theorem zL{h:Ji}{o:Jp}{f:Jr}(d:h.get? a=Ja o)(W:o.data= .func f)(R:f.body= .stmts body)(e:fnB h ps f=Jc):FnIn h ps a o f body:=by
 obtain⟨F,L,H,D⟩:=and4 e;have b:=and3 F;have Z:=and3 L;have O:=and3 H;have c:=and3 D;obtain⟨s,k,z,N,q⟩:=iV Z.2.2;have nd:ps.Nodup:=Y8 O.2.1;refine⟨d,W,.of_ok b.1,R,List.isEmpty_iff.mp b.2.1,Ub Z.1,Ub Z.2.1,λv T=> ?_,O.1,nd,(QQ _).mp c.1,(QQ _).mp c.2.1,Ub c.2.2,O.2.2⟩;have l:v.length=s.length:=by
  have:=Ud YF q;rw[Qd,Qd] at this;exact T.trans this.symm
 rw[<-q];exact iU N (Ub b.2.2) (by rw[q];exact cQ nd) l
inductive FnS(h:Ji)(ps:List String)(mt:Jk->List Jo->Bool)(a:Jg):Prop
 |mk (o:Jp) (fd:Jr) (body:List Jo) (F:FnIn h ps a o fd body) (c:o.cls= .type "function") (m:mt fd.scope body=Jc):FnS h ps mt a
theorem qZ{m:Jk->List Jo->Bool}(e:qd h ps m a=Jc):FnS h ps m a:=by
 obtain⟨o,d,T⟩:=cH e;obtain⟨w,X⟩:=Qg.mp T;obtain⟨S,f,u⟩:=cH X;obtain⟨b,R,V⟩:=cH u;obtain⟨q,N⟩:=Qg.mp V;exact⟨o,S,b,zL d (nK f) (og R) q,Ub w,N⟩
theorem FnS.keeps{h A:Ji}{t:Jk->List Jo->Bool}(x:FnS h ps t a)(kp:∀b o,h.get? b=Ja o->A.get? b=Ja o):FnS A ps t a:=by obtain⟨o,f,b,F,c,m⟩:=x;exact⟨o,f,b,F.keeps kp,c,m⟩
inductive MethAt(h:Ji)(K:Frag)(c:Cls)(a:Jg)(t:Fn):Prop
 |mk (m:Jg) (p:bP t.f=Jd) (cn:cOf t.f=c.nm) (n:mOf t.f∉c.fs) (e:findIn K (.ref a) (Qb (mOf t.f))=Ja (Ja (.ref m))) (ty:typeIn K (.ref m)=Ja (.type "function")) (F:FnS h t.ps (λsc b=>mSs sc t.b b) m):MethAt h K c a t
inductive ClsAt(h:Ji)(K:Frag)(c:Cls)(a:Jg):Prop
 |mk (fI:Jg) (N:NewAt h a fI c.fs) (F:FnS h ("self"::c.as) (initM c) fI) (ga:findIn K (.ref a) "__getattribute__"=Ja (Ja (.builtin "object.__getattribute__"))) (gh:findIn K (.ref a) "__getattr__"=Ja Option.none) (dct:hasDictIn K a=Jc)
  (fl:∀f∈c.fs,findIn K (.ref a) (Qb f)=Ja Option.none) (ms:∀t∈c.ms,MethAt h K c a t) (ne:c.fs.Nodup) (pn:bP c.nm=Jc) (h50:c.fs.length<=50):ClsAt h K c a
theorem pG(h:ug l=Jc):X5 λS k U F O=>l=[S,k,U,F,Ja (.builtin "object.__new__"),O]:=⟨_,_,_,_,_,Ub h⟩
theorem wc{h:Ji}{K:Frag}{c:Cls}{a:Jg}{t:Fn}(e:methB h K c a t=Jc):MethAt h K c a t:=by
 obtain⟨T,F,X⟩:=and3 e;obtain⟨T,b⟩:=and2 T;obtain⟨m,N,p⟩:=cH X;obtain⟨J,w⟩:=Qg.mp p;have B:=ky N;refine⟨m,(QQ _).mp T,Ub b,by simpa using F,?_,Ub J,qZ w⟩
 induction q:findIn K (.ref a) (Qb<|mOf t.f) with
 |none=>rw[q] at B;exact ns B
 |some u=>rw[q] at B;exact Ud Ja B
theorem x8{h:Ji}{K:Frag}{c:Cls}{a:Jg}(e:clsB h K c a=Jc):ClsAt h K c a:=by
 obtain⟨p,j,P,u⟩:=and4 e;obtain⟨o,w,V⟩:=cH p;obtain⟨d,v,q⟩:=cH V;obtain⟨L,S,r,E⟩:=and4 q;have g:=and3 L;have X:=and3 S;have T:=and3 r;obtain⟨I,R,B⟩:=cH E;obtain⟨W,G,U,F,O,s⟩:=pG g.2.1;have C:=w.trans<|congrArg Ja (s9 (Ub g.1) (mF v) (Ub g.2.2) X.1 ((QQ _).mp X.2.1) s);rw[(QQ _).mp X.2.2] at C;have k:=and4 j;refine⟨I,⟨d.name,d.qualname,d.ns,d.bases,d.slotNames,d.subclasses,d.collection,o.dict,W,G,U,F,O,h.nsMap d.ns,C,.of_isNs T.1,ky R,Kd.mp T.2.1,λf m=> ?_⟩,qZ B,Ub k.1,Ub k.2.1,k.2.2.1,λf m=>Ub<|Qv.mp k.2.2.2 f m,λt H=>wc<|Qv.mp P t H,Y8 (and3 u).1,(and3 u).2.1,Y8 (and3 u).2.2⟩;obtain⟨z1,z2⟩:=Qg.mp<|Qv.mp T.2.2 f m;exact⟨Kd.mp z1,by rw[typeLookup_type,builtinLookup_eq_fast,Ub z2]⟩
theorem ClsAt.keeps{h A:Ji}{K:Frag}{c:Cls}{a:Jg}(x:ClsAt h K c a)(kp:∀b o,h.get? b=Ja o->A.get? b=Ja o):ClsAt A K c a:=by
 obtain⟨f,N,F,V,g,d,fl,s,ne,T,E⟩:=x;exact⟨f,N.keeps kp,F.keeps kp,V,g,d,fl,λt W=>by obtain⟨m,p,Y,n,e,y,F⟩:=s t W;exact⟨m,p,Y,n,e,y,F.keeps kp⟩,ne,T,E⟩
structure Seen(h:Ji)(K:Frag)(k:Kinds):Prop where
 kin:K.In h
 ok:j8 K k=Jc
 ini:∀c∈k.inis,k.cs.contains c=Jc/\∃a,b0 K c=Ja a/\IniAt h K a (k.flds c)
 cls:∀c∈k.cl,∃a,b0 K c.nm=Ja a/\ClsAt h K c a
def hookE(k:Kinds):Hook where
 α:=Bool
 obs:=obsE k
 val:=λo0=>Jc
 says:=λo0 h=>∃K:Frag,Seen h K k
 of:=λo0 s e=>⟨_,jC,(and3 e).1,λc C=>by
  obtain⟨N,p⟩:=Qg.mp<|Qv.mp (and3 e).2.1 c C;obtain⟨a,J,w⟩:=cH p;exact⟨N,a,J,xY w⟩,λc C=>by
  obtain⟨a,J,w⟩:=cH (Qv.mp (and3 e).2.2 c C);exact⟨a,J,x8 w⟩⟩
 keeps:=λo0 h A z kp=>by obtain⟨K,a⟩:=z;exact⟨K,a.kin.keeps kp,a.ok,λc C=>by obtain⟨N,b,p,J⟩:=a.ini c C;exact⟨N,b,p,J.keeps kp⟩,λc C=>by obtain⟨b,p,J⟩:=a.cls c C;exact⟨b,p,J.keeps kp⟩⟩
end
section
open PySem.W PyProof.Rows
def fnOK(p:Jn)(t:Fn):Bool:=
 match (recsOf p).find? λd=>d.name==Qb t.f with
 |some d=>mX t.ps d.params&&(t.ps.all λp=>d.scope.names.lookup (Qb p)==Ja .local||d.scope.names.lookup (Qb p)==Ja .cell)&&decide t.ps.Nodup&& !d.scope.isCoroutine&& !d.scope.isGenerator&&
   d.scope.kind== .function&&(d.scope.names.all λp=>p.2 != .free)&&mSs d.scope t.b d.body&&bP t.f
 |none=>Jd
noncomputable def valIs:Option YR->PV->Bool
 |some (.int j),.int i=>j==i
 |some (.str j),.str i=>j==Qb i
 |_,_=>Jd
def topOK(p:Jn)(loose:List Jq)(gl:List (String×PV))(tab:List Fn):Bool:=
 (tab.all (fnOK p))&&(bltNames.all λx=> !startupNames.contains (Qb x)&& !loose.contains (Qb x)&& !((recsOf p).map (·.name)).contains (Qb x)&& !((litsOf p).map (·.1)).contains (Qb x)&&
  !((clssOf p loose).map (·.name)).contains (Qb x))&&gl.all λq=>valIs (valOf p (Qb q.1)) q.2
def qW(p:Jn)(loose:List Jq)(k:Kinds):Bool:=
 (k.mks.all λc=>k.cs.contains c&&specOf p (Qb c)==Ja ("ValueError.__new__",bmV)&&(k.flds c).isEmpty)&& !k.cs.contains "ValueError"&&
 (!startupNames.contains (Qb "ValueError")&& !loose.contains (Qb "ValueError")&& !((recsOf p).map (·.name)).contains (Qb "ValueError")&& !((litsOf p).map (·.1)).contains (Qb "ValueError")&&
  !((clssOf p loose).map (·.name)).contains (Qb "ValueError"))
def fvC(K:Frag)(k:Kinds)(f:String):Option Jf:=(k.cl.find? λc=>f==c.nm||c.ms.any (·.f==f)).bind λc=>(b0 K c.nm).bind λa=>if f=c.nm then Ja (.ref a) else(findIn K (.ref a)<|Qb (mOf f)).getD Jb
def cxE(prog:Jn)(w:Jm)(B:Ji)(mg:Jq->Option Jf)(tab:List Fn)(K:Frag)(k:Kinds):Cx:=
 {prog,w,B,cls:=λc=>if k.cs.contains c then b0 K c else Jb,fv:=λf=>if tab.any (·.f==f) then mg (Qb f) else fvC K k f,ok:=True,calm:=True,K,flds:=k.flds,icl:=λn=>if k.cl.any (·.nm==n) then b0 K n else Jb}
noncomputable def gxE(gl:List (String×PV))(tab:List Fn)(k:Kinds):Gx:=
 {glob:=λx=>gl.lookup x,sub:=k.sub,full:=Jc,fn:=λf=>tab.any (·.f==f)||k.cl.any λc=>f==c.nm||c.ms.any (·.f==f),calm:=Jc,cs:=k.cs,mks:=k.mks,inis:=k.inis,flds:=k.flds}
theorem om{h:Ji}{o:Jp}(T:h.get? a=Ja o)(d:o.data= .func f):Looks M h (keeperOf (.ref a)) .frame:=by
 intro A Q E s q X;unfold keeperOf;refine YG<|wpAny_load (q a o T) ?_;rw[d];exact YH X
section
variable{prog p:Jn}{w:Jm}{B:Ji}{mg mb:Jq->Option Jf}{loose:List Jq}{mean:ExcName->Option Jf}{gl:List (String×PV)}{tab:List Fn}{K:Frag}{k:Kinds}
theorem xy(T:Top p loose mean mg mb B){t:Fn}(H:t∈tab)(h:fnOK p t=Jc):X4 λa o f body=>FnAt (cxE prog w B mg tab K k) t.f t.ps t.b a o f body/\mg (Qb t.f)=Ja (.ref a):=by
 unfold fnOK at h
 induction q:(recsOf p).find? λd=>d.name==Qb t.f with
 |none=>rw[q] at h;exact ft h
 |some d=>
  rw[q] at h;simp only[QV,QQ,Uc,beq_iff_eq] at h;obtain⟨⟨⟨⟨⟨⟨⟨⟨E,Y⟩,J⟩,O⟩,b⟩,W⟩,S⟩,y⟩,i⟩:=h;have n:d.name=Qb t.f:=by simpa using Yx q
  obtain⟨a,o,m,c,P,e,F,X,u⟩:=T.fn d<|Wl q;obtain⟨s,z,I,N,Z⟩:=iV E;rw[n] at e;refine⟨a,o,_,d.body,⟨⟨F,X,u,rfl,rfl,rfl,rfl,λv r=> ?_,Y,J,O,b,W,S⟩,?_,⟨.frame,.inl rfl,om F X⟩,y⟩,e⟩
  rotate_left
  ·show(if tab.any (·.f==t.f) then mg (Qb t.f) else fvC K k t.f)=_;rw[Ua (Ke.mpr ⟨t,H,by simp⟩)];exact e
  ·have l:v.length=s.length:=by
    have:=Ud YF Z;simp only[Qd] at this;exact r.trans this.symm
   rw[<-Z];exact iU N rfl (by rw[Z];exact cQ J) l
theorem nh(X:K.In B)(N:B.Ns JA mg)(e:b0 K c=Ja a):mg (Qb c)=Ja (.ref a):=by
 unfold b0 at e
 induction h:nsIn K JA (Qb c) with
 |none=>rw[h] at e;exact ns e
 |some o=>induction o with
  |none=>rw[h] at e;exact ns e
  |some v=>
   rw[h] at e
   induction v using Value.casesOn with
   |ref b=>obtain rfl:=sj e;exact wN X N h
   |_=>exact ns e
theorem rU{tab:List Fn}(h:tab.all (fnOK p)=Jc)(j:tab.any (·.f==f)=Jc):bP f=Jc:=by
 obtain⟨t,W,e⟩:=Ke.mp j;have e:t.f=f:=Ub e;subst e;have h:=Qv.mp h t W;unfold fnOK at h
 induction v:(recsOf p).find? λd=>d.name==Qb t.f with
 |none=>rw[v] at h;exact ft h
 |some d=>rw[v] at h;exact(Qg.mp h).2
inductive FvS(B:Ji)(K:Frag)(k:Kinds)(f:String)(v:Jf):Prop
 |cls (c:Cls) (a:Jg) (h:c∈k.cl) (ha:b0 K c.nm=Ja a) (S:ClsAt B K c a) (e:f=c.nm) (ev:v= .ref a):FvS B K k f v
 |me (c:Cls) (a m:Jg) (t:Fn) (h:c∈k.cl) (ha:b0 K c.nm=Ja a) (S:ClsAt B K c a) (ht:t∈c.ms) (e:t.f=f) (p:bP f=Jd) (cn:cOf f=c.nm) (n:mOf f∉c.fs) (q:findIn K (.ref a) (Qb (mOf f))=Ja (Ja (.ref m))) (ty:typeIn K (.ref m)=Ja (.type "function")) (F:FnS B t.ps (λsc b=>mSs sc t.b b) m) (ev:v= .ref m):FvS B K k f v
theorem ClsAt.pn'{c:Cls}(S:ClsAt B K c a):bP c.nm=Jc:=by obtain⟨f,N,F,V,g,d,fl,m,ne,n,h⟩:=S;exact n
theorem ClsAt.me{c:Cls}(S:ClsAt B K c a)(W:t∈c.ms):MethAt B K c a t:=by obtain⟨f,N,F,V,g,d,fl,m,ne,n,h⟩:=S;exact m t W
theorem rA(l:∀c∈k.cl,∃a,b0 K c.nm=Ja a/\ClsAt B K c a)(h:fvC K k f=Ja v):FvS B K k f v:=by
 obtain⟨c,Z,h⟩:=Qq.mp h;obtain⟨a,T,h⟩:=Qq.mp h;have C:=Wl Z;have D:=Yx Z;obtain⟨i,X,S⟩:=l c C;obtain rfl:=sj<|T.symm.trans X;by_cases q:f=c.nm
 ·rw[Ua q] at h;exact .cls c a C T S q (sj h).symm
 ·rw[Y9 q] at h;have z:c.ms.any (·.f==f)=Jc:=(Wq.mp D).resolve_left λz=>q<|eq_of_beq z;obtain⟨t,W,e⟩:=Ke.mp z;have e:t.f=f:=Ub e;subst e;obtain⟨m,p,Y,n,e,y,F⟩:=S.me W;rw[e] at h;exact .me c a m t C T S W rfl p Y n e y F (sj h).symm
theorem uy{c:Cls}(h:∀c∈k.cl,∃a,b0 K c.nm=Ja a/\ClsAt B K c a)(Z:c∈k.cl)(j:(f=c.nm/\bP f=Jc)\/(bP f=Jd/\cOf f=c.nm/\∃t∈c.ms,t.f=f)):fvC K k f=(b0 K c.nm).bind λa=>if f=c.nm then Ja (.ref a) else(findIn K (.ref a) (Qb (mOf f))).getD Jb:=by
 have b:(f==c.nm||c.ms.any (·.f==f))=Jc:=by
  rcases j with⟨rfl,o0⟩|⟨o0,o0,t,W,rfl⟩
  ·rw[beq_self_eq_true];rfl
  ·rw[Ke.mpr ⟨t,W,beq_self_eq_true t.f⟩,Bool.or_true]
 unfold fvC
 induction q:k.cl.find? (λc=>f==c.nm||c.ms.any (·.f==f)) with
 |none=>exact absurd b<|List.find?_eq_none.mp q c Z
 |some Q=>
  have C:=Wl q;have D:=Yx q;obtain⟨o0,o0,S⟩:=h Q C;have e:Q.nm=c.nm:=by
   rcases Wq.mp D with z|z
   ·have z:f=Q.nm:=Ub z
    rcases j with⟨z2,o0⟩|⟨z2,o0⟩
    ·exact z.symm.trans z2
    ·rw[z,S.pn'] at z2;exact tf z2
   ·obtain⟨t,W,z⟩:=Ke.mp z;have z:t.f=f:=Ub z;obtain⟨m,p,n,o0⟩:=S.me W;rw[z] at p n
    rcases j with⟨o0,z2⟩|⟨o0,z2,o0⟩
    ·exact tf<|z2.symm.trans p
    ·exact n.symm.trans z2
  rw[KV,e]
theorem qY{c:Cls}(h:∀c∈k.cl,∃a,b0 K c.nm=Ja a/\ClsAt B K c a)(C:c∈k.cl)(T:b0 K c.nm=Ja a)(S:ClsAt B K c a):fvC K k c.nm=Ja (.ref a):=by
 rw[uy h C (.inl ⟨rfl,S.pn'⟩),T,KV];exact Ua rfl
theorem sO{c:Cls}{t:Fn}(h:∀c∈k.cl,∃a,b0 K c.nm=Ja a/\ClsAt B K c a)(C:c∈k.cl)(T:b0 K c.nm=Ja a)(S:ClsAt B K c a)(W:t∈c.ms)(p:bP t.f=Jd)(n:cOf t.f=c.nm)(e:findIn K (.ref a) (Qb (mOf t.f))=Ja (Ja (.ref m))):fvC K k t.f=Ja (.ref m):=by
 rw[uy h C (.inr ⟨p,n,t,W,rfl⟩),T,KV,Y9<|λq=>by rw[q,S.pn'] at p;exact tf p,e];rfl
theorem xM{C:Cx}{t:Jk->List Jo->Bool}(F:FnS C.B ps t m):Kp C (.ref m):=by obtain⟨o,f,b,F,o0,o0⟩:=F;exact⟨.frame,.inl rfl,om F.ho F.hd⟩
theorem za(T:Top p loose mean mg mb B)(X:K.In B)(l:∀c∈k.cl,∃a,b0 K c.nm=Ja a/\ClsAt B K c a)(h:topOK p loose gl tab=Jc):GOK (cxE prog w B mg tab K k) (gxE gl tab k) mg mb:=by
 unfold topOK at h;simp only[QV] at h;obtain⟨⟨Y,Q⟩,J⟩:=h;refine⟨T.g,T.b,T.nolimit,λx hx=> ?_,λx q U=> ?_,(λo0=>trivial),λo0=>trivial,λf v hp W=> ?_,λf W=> ?_⟩
 ·have:=Qv.mp Q x hx;simp only[QV,QQ,List.contains_eq_mem,decide_eq_false_iff_not] at this;obtain⟨⟨⟨⟨a,b⟩,c⟩,d⟩,e⟩:=this;refine⟨T.free _ a b c d e,T.builtins _ λq=> ?_⟩;exact absurd (show "__name__"∈bltNames from ofString_inj q▸hx)<|by decide
 ·have V:gl.lookup x=Ja q:=U;have O:(x,q)∈gl:=by
   clear J Y Q U
   induction gl with
   |nil=>simp at V
   |cons a r A=>
    obtain⟨y,j⟩:=a;by_cases e:x=y
    ·subst e;simp at V;subst V;exact Wa
    ·rw[Yp,beq_eq_false_iff_ne.mpr e] at V;exact KC _<|A V
  have:=Qv.mp J _ O
  induction E:valOf p (Qb x) with
  |none=>rw[E] at this;exact ft this
  |some d=>
   rw[E] at this;obtain⟨v,L,I⟩:=T.const _ _ E;refine⟨v,L,λσ h=> ?_⟩;have s:=I h
   induction d using PyData.casesOn with
   |int j=>induction q using PV.casesOn with
    |int i=>
     have e:j=i:=Ub this;subst e;cases s;exact⟨_,rfl⟩
    |_=>exact ft this
   |str j=>induction q using PV.casesOn with
    |str i=>
     have e:j=Qb i:=Ub this;subst e;cases s;exact⟨_,rfl⟩
    |_=>exact ft this
   |_=>exact ft this
 ·show mg _=_;replace W:(if tab.any (·.f==f) then mg (Qb f) else fvC K k f)=Ja v:=W;by_cases q:tab.any (·.f==f)=Jc
  ·rw[Ua q] at W;exact W
  ·rw[Y9 q] at W
   rcases rA l W with⟨c,a,h,D,S,rfl,rfl⟩|⟨c,a,m,t,h,D,S,H,e,pp,o0⟩
   ·exact nh X T.g D
   ·exact tf<|hp.symm.trans pp
 ·by_cases q:tab.any (·.f==f)=Jc
  ·obtain⟨t,H,e⟩:=Ke.mp q;have e:t.f=f:=by simpa using e
   subst e;obtain⟨a,o,fd,M,F,L⟩:=xy (prog:=prog) (w:=w) (tab:=tab) (K:=K) (k:=k) T H<|Qv.mp Y t H;exact⟨.ref a,F.fv,F.kp⟩
  ·have W:k.cl.any (λc=>f==c.nm||c.ms.any (·.f==f))=Jc:=(Wq.mp W).resolve_left q;have G:∀v,fvC K k f=Ja v->(cxE prog w B mg tab K k).fv f=Ja v:=λv e=>(Y9 q).trans e;obtain⟨c,Z,W⟩:=Ke.mp W;obtain⟨a,D,S⟩:=l c Z;obtain⟨fI,N,F,ga,gh,R,fl,g,ne,pn,P⟩:=id S
   rcases Wq.mp W with z|z
   ·obtain rfl:=Ub z;exact⟨.ref a,G _<|qY l Z D S,NewAt.kp (C:=cxE prog w B mg tab K k) N⟩
   ·obtain⟨t,H,e⟩:=Ke.mp z;have e:t.f=f:=Ub e;subst e;obtain⟨m,p,u,n,e,ty,F⟩:=g t H;exact⟨.ref m,G _<|sO l Z D S H p u e,xM (C:=cxE prog w B mg tab K k) F⟩
end
section
variable{prog p:Jn}{w:Jm}{B:Ji}{mg mb:Jq->Option Jf}{loose:List Jq}{mean:ExcName->Option Jf}{gl:List (String×PV)}{tab:List Fn}{K:Frag}{k:Kinds}
theorem lC(h:j8 K k=Jc)(C:k.cs.contains c=Jc):∃a,A3 (b0 K c=Ja a) (∀f∈k.flds c,findIn K (.ref a) (Qb f)=Ja Jb) (∀d b,k.cs.contains d=Jc->b0 K d=Ja b->exmOne K (.ref a) (.ref b)=Ja (k.sub c d)):=by
 have N:=Qv.mp h c (by simpa using C);unfold sB at N
 induction e:b0 K c with
 |none=>rw[e] at N;exact ft N
 |some a=>
  rw[e] at N;obtain⟨W,O⟩:=and2 N;refine⟨a,rfl,λf j=>beq_iff_eq.mp<|Qv.mp W f j,λd b v R=> ?_⟩;have n:=Qv.mp O d (by simpa using v);rw[R] at n;exact beq_iff_eq.mp n
theorem zP(T:Top p loose mean mg mb B)(X:K.In B)(h:j8 K k=Jc)(i:∀c∈k.inis,k.cs.contains c=Jc/\∃a,b0 K c=Ja a/\IniAt B K a (k.flds c))(hp:qW p loose k=Jc)(l:∀c∈k.cl,∃a,b0 K c.nm=Ja a/\ClsAt B K c a)(j:∀c∈k.cl,k.flds c.nm=c.fs)(y:∀f,tab.any (·.f==f)=Jc->bP f=Jc):ExcOK (cxE prog w B mg tab K k) (gxE gl tab k) mg mb:=by
 obtain⟨o,ac,aa⟩:=and3 hp;have M:∀ {c:String} {a:Jg},(cxE prog w B mg tab K k).cls c=Ja a->k.cs.contains c=Jc/\b0 K c=Ja a:=λ{c a} e=>by
  have e:(if k.cs.contains c then b0 K c else Jb)=Ja a:=e;by_cases q:k.cs.contains c=Jc
  ·rw[Ua q] at e;exact⟨q,e⟩
  ·exact ns<|(Y9 q).symm.trans e
 have s:∀c,k.cs.contains c=Jc->∃a,(cxE prog w B mg tab K k).cls c=Ja a:=λc C=>by
  obtain⟨a,e,o0⟩:=lC h C;exact⟨a,(Ua C).trans e⟩
 refine⟨X,λc a e=>nh X T.g (M e).2,s,λc C=> ?_,λc a d b J R=> ?_,λc=>rfl,λc C=> ?_,λc a f e g=> ?_,λc C=> ?_,λc a e W=> ?_,λu a e=> ?_⟩
 ·have C:k.mks.contains c=Jc:=C;exact s c (and3<|Qv.mp o c (by simpa using C)).1
 ·obtain⟨U,G⟩:=M J;obtain⟨q3,q4⟩:=M R;obtain⟨E,P,o0,A⟩:=lC h U;obtain rfl:=sj<|G.symm.trans P;exact A d b q3 q4
 ·have C:k.mks.contains c=Jc:=C;exact List.isEmpty_iff.mp (and3<|Qv.mp o c (by simpa using C)).2.2
 ·obtain⟨U,G⟩:=M e;obtain⟨E,P,A,o0⟩:=lC h U;obtain rfl:=sj<|G.symm.trans P;exact A f g
 ·have C:k.inis.contains c=Jc:=C;obtain⟨h1,a,h2,h3⟩:=i c (by simpa using C);exact⟨a,(Ua h1).trans h2,h3⟩
 ·have W:k.mks.contains c=Jc:=W;have hs:=beq_iff_eq.mp (and3<|Qv.mp o c (by simpa using W)).2.1;obtain⟨C',O,o0⟩:=T.ownAt hs;have J:=nh X T.g (M e).2;have R:=O.bound;rw[J] at R;cases R;exact O.own
 ·have e:(if k.cl.any (·.nm==u) then b0 K u else Jb)=Ja a:=e;by_cases z:k.cl.any (·.nm==u)=Jc
  rotate_left
  ·exact ns<|(Y9 z).symm.trans e
  have I:b0 K u=Ja a:=(Ua z).symm.trans e;obtain⟨c,C,z⟩:=Ke.mp z;obtain rfl:=Ub z;obtain⟨E,Y,S⟩:=l c C;obtain rfl:=sj<|I.symm.trans Y;obtain⟨fI,N,F,ga,gh,L,fl,ms,ne,pn,ab⟩:=S;refine⟨ga,gh,L,λf g=>fl f<|j c C▸g,λf v Z H hv=> ?_⟩;have hv:(if tab.any (·.f==f) then mg (Qb f) else fvC K k f)=Ja v:=hv;by_cases q:tab.any (·.f==f)=Jc
  ·exact tf<|(y f q).symm.trans Z
  ·rw[Y9 q] at hv
   rcases rA l hv with⟨Q,D,h,V,S,rfl,rfl⟩|⟨Q,D,m,t,h,V,S,ht,e,pp,cn,n,q,ty,F,rfl⟩
   ·exact tf<|S.pn'.symm.trans Z
   ·have r:Q.nm=c.nm:=cn.symm.trans H;have ef:Q.fs=c.fs:=(j Q h).symm.trans ((Ud k.flds r).trans (j c C));rw[r] at V;obtain rfl:=sj<|I.symm.trans V;exact⟨m,rfl,q,ty,λx hx z=>n<|ef▸ofString_inj z▸(j c C▸hx:x∈c.fs)⟩
end
end
section
set_option backward.match.sparseCases true
open PySem.W PyProof.Rows
theorem lM:∀ {xs:List WData},WShape.hasItems [] xs .int=Jc->∃ns:List Int,xs=ns.map .int
 |[]=>λo0=>⟨[],rfl⟩
 |x::xs=>λh=>by
  have h:(WShape.has [] x .int&&WShape.hasItems [] xs .int)=Jc:=h;obtain⟨N,p⟩:=Qg.mp h;obtain⟨ns,rfl⟩:=lM p;have:∃i,x= .int i:=by
   exact hasW_int N
  obtain⟨i,rfl⟩:=this;exact⟨i::ns,rfl⟩
theorem t4:WShape.has [] (.bool Jc) .bool=Jc:=by decide+kernel
theorem sg:WTm.holds [] (.eq .res (.lit (.bool Jc))) {args:=a,res:=Ja (.bool Jc),after:=b}=Jc:=by
 have h:W.same (.bool Jc) (.bool Jc)=Jc:=by decide+kernel
 show(match Ja (WData.bool (W.same (.bool Jc) (.bool Jc))) with
  |some (.bool Jc)=>Jc
  |_=>Jd)=Jc
 rw[h]
theorem zB{xs:List WData}(h:63<xs.length):WTm.holds [] (.and (.not (.lt (.lit (.int (63:Nat))) (.len (.arg 0)))) (.lit (.bool Jc))) {args:=[.list xs]}=Jd:=by
 have e:less? (.int (63:Nat)) (.int (xs.length:Nat))=Ja Jc:=by simp[less?,Num.less?];exact Kf.mpr h
 have v:WTm.value [] (.lt (.lit<|.int (63:Nat))<|.len (.arg 0)) {args:=[.list xs]}=Ja (.bool Jc):=Ud (Wj WData.bool) e;have n:WTm.value [] (.not<|.lt (.lit<|.int (63:Nat)) (.len<|.arg 0)) {args:=[.list xs]}=Ja (.bool Jd):=by
  show(match WTm.value [] (.lt (.lit (.int (63:Nat))) (.len (.arg 0))) {args:=[.list xs]} with
   |some (.bool b)=>Ja<|WData.bool (!b)
   |_=>Jb)=_
  rw[v];rfl
 have M:WTm.value [] (.and (.not<|.lt (.lit<|.int (63:Nat)) (.len<|.arg 0))<|.lit (.bool Jc)) {args:=[.list xs]}=Ja (.bool Jd):=by
  show(match WTm.value [] (.not (.lt (.lit (.int (63:Nat))) (.len (.arg 0)))) {args:=[.list xs]} with
   |some (.bool Jd)=>Ja<|WData.bool Jd
   |some (.bool Jc)=>(match WTm.value [] (.lit (.bool Jc)) {args:=[.list xs]} with
    |some (.bool x)=>Ja<|.bool x
    |_=>Jb)
   |_=>Jb)=_
  rw[n]
 unfold WTm.holds;rw[M]
theorem vg{l:OpenLaw}(m:l.most=Ja 63)(b:l.bound=Jb){args:List WData}(h:l.row.toRowW.claim.pre args=Jc):∃ns:List Int,args=[.list (ns.map .int)]/\ns.length<=63:=by
 have h:(WShape.hasAll [] args [.list .int]&&(OpenLaw.pre l).holds [] {args:=args})=Jc:=h;simp only[QV] at h;obtain⟨N,p⟩:=h
 match args,N with
 |[x],N=>
  have hx:∃s,x= .list s/\WShape.hasItems [] s .int=Jc:=by
   have N:(WShape.has [] x (.list .int)&&WShape.hasAll [] [] [])=Jc:=N;have N:=(Qg.mp N).1;exact hasW_list N
  obtain⟨s,rfl,hx⟩:=hx;obtain⟨ns,rfl⟩:=lM hx;refine⟨ns,rfl,?_⟩;unfold OpenLaw.pre at p;rw[m,b] at p;by_cases T:ns.length<=63
  ·exact T
  ·rw[zB (by rw[Qd];exact Nat.not_le.mp T)] at p;exact ft p
 |[],N=>exact absurd N QC
 |x::y::r,N=>
  have N:(WShape.has [] x (.list .int)&&WShape.hasAll [] (y::r) [])=Jc:=N;exact absurd (Qg.mp N).2 QC
theorem kZ{c:Jq->Option Jg}:∀ {ns:List Int} {vs:List Jf} {as:List Jg},ReadsAllW [] c h vs (ns.map .int) as->vs.length=ns.length/\∀ (i:Nat) (k:Int),ns[i]? =Ja k->∃t,vs[i]? =Ja (Value.int k t)
 |[]=>λr=>by cases r;exact⟨rfl,λi k e=>by simp at e⟩
 |n::ns=>λr=>by
  cases r with
  |cons f M=>
   cases f;obtain⟨a,b⟩:=kZ M;refine⟨by simp[a],λi k e=> ?_⟩
   induction i using Nat.casesOn with
   |zero=>simp at e;subst e;exact⟨_,rfl⟩
   |succ j=>simpa using b j k (by simpa using e)
noncomputable def noPH:PH:=λo0=>Jb
inductive ClsC(C:Cx)(c:Cls):Prop
 |mk (a:Jg) (icl:C.icl c.nm=Ja a) (fv:C.fv c.nm=Ja (.ref a)) (S:ClsAt C.B C.K c a) (fl:C.flds c.nm=c.fs) (ms:∀t∈c.ms,X4 λa o fd body=>FnAt C t.f t.ps t.b a o fd body):ClsC C c
theorem AB{prog:Jn}{w:Jm}{B:Ji}{g:Jq->Option Jf}{tab:List Fn}{K:Frag}{k:Kinds}{c:Cls}(Z:c∈k.cl)(h:∀c∈k.cl,∃a,b0 K c.nm=Ja a/\ClsAt B K c a)(j:∀c∈k.cl,k.flds c.nm=c.fs)(l:∀f,tab.any (·.f==f)=Jc->bP f=Jc)(Y:∀c∈k.cl,tab.any (·.f==c.nm)=Jd):ClsC (cxE prog w B g tab K k) c:=by
 obtain⟨a,T,S⟩:=h c Z;refine⟨a,?_,?_,S,j c Z,λt W=> ?_⟩
 ·show(if k.cl.any (·.nm==c.nm) then b0 K c.nm else Jb)=_;rw[Ua (Ke.mpr ⟨c,Z,beq_self_eq_true c.nm⟩)];exact T
 ·show(if tab.any (·.f==c.nm) then g (Qb c.nm) else fvC K k c.nm)=_;rw[Y9 (by rw[Y c Z];exact QC)];exact qY h Z T S
 ·obtain⟨m,p,G,n,e,y,F⟩:=S.me W;obtain⟨o,d,b,I,V,L⟩:=id F;refine⟨m,o,d,b,I,?_,xM (C:=cxE prog w B g tab K k) F,L⟩;show(if tab.any (·.f==t.f) then g (Qb t.f) else fvC K k t.f)=_;rw[Y9 (λq=>QC<|p.symm.trans (l _ q))];exact sO h Z T S W p G e
set_option tactic.hygienic true in
theorem law_walk{l:OpenLaw}{XP:(Jq->Option Jf)->Ji->Prop}{d:DefRec}{E:List (Jq×Jl)}(H:List (String×PV))(tab:List Fn)(k:Kinds)
  (hm:l.most=Ja 63)(hb:l.bound=Jb)(hn:d.name=Qb "law")(h:topOK q (looseW q loose) H tab=Jc)(Q:qW q (looseW q loose) k=Jc)(O:tab.any (·.f=="law")=Jc)(J:N<=300)(j:∀c∈k.cl,k.flds c.nm=c.fs)(M:∀c∈k.cl,tab.any (·.f==c.nm)=Jd)
  (u:∀ (C:Cx) (g D:Jq->Option Jf),GOK C (gxE H tab k) g D->ExcOK C (gxE H tab k) g D->C.ok->(∀t∈tab,X4 λa o S body=>FnAt C t.f t.ps t.b a o S body)->(∀c∈k.cl,ClsC C c)->∀ns:List Int,ns.length<=63->aO C N "law" [.scr ns] noPH (λv o0=>v= .bool Jc) λo0 o0=>False):
  WalkO q loose XP (Hook.says<|hookE k) l.row.toRowW d E λf vs=>PySem.call f vs:=by
 intro w ab s g D G Y fa o pm cd ai dV kV ho hd ah hD Z hg args aa as r ac P ad ae;refine Ground.open G λT o0 o0 o0 o0=> ?_;obtain⟨K,z,V,y,B⟩:=Y;have A:∀f,tab.any (·.f==f)=Jc->bP f=Jc:=λf hf=>by
  unfold topOK at h;simp only[QV] at h;exact rU h.1.1 hf
 obtain⟨ns,rfl,L⟩:=vg hm hb r;have hG:GOK (cxE l.row.toRowW.prog w s.heap g tab K k) (gxE H tab k) g D:=za T z B h;have hF:∀t∈tab,X4 λa o S body=>FnAt (cxE l.row.toRowW.prog w s.heap g tab K k) t.f t.ps t.b a o S body:=λt W=>by
  unfold topOK at h;simp only[QV] at h;obtain⟨a,o,S,body,F,o0⟩:=xy (prog:=l.row.toRowW.prog) (w:=w) (tab:=tab) (K:=K) (k:=k) T W<|Qv.mp h.1.1 t W;exact⟨a,o,S,body,F⟩
 obtain⟨v,hv,o0,U⟩:=u _ g D hG (zP T z V y Q B j A) trivial hF (λc hc=>AB hc B j A M) ns L;have hv:g (Qb "law")=Ja v:=by
  simp only[cxE] at hv;rw[Ua O] at hv;exact hv
 rw[hn] at Z;obtain rfl:=sj<|Z.symm.trans hv;cases P with
 |cons r1 r2=>
  cases r2;cases r1 with
  |list e1 e2 e3 e4=>
   rename_i R o' vs n af
   obtain⟨e5,e6⟩:=kZ e4;have m:Sim (cxE l.row.toRowW.prog w s.heap g tab K k) noPH s.heap:=⟨λb o e=>e,λa o e=>by simp[noPH] at e,λa o e=>by simp[noPH] at e,λa o e=>by simp[noPH] at e⟩
   have ak:AOK (cxE l.row.toRowW.prog w s.heap g tab K k) N callerA [] noPH s.heap:=by
    refine⟨?_,?_,rfl,λen he=>by simp at he,λo0=>rfl⟩
    ·show 1+claimMargin+N+2<JZ;unfold claimMargin JZ;exact zl (Kl (KL J _) 2)<|by decide
    ·show 4+30*N+300<Y5;unfold Y5;exact zl (Kl (KL (WN 30 J) 4) 300)<|by decide
   have I:VRs (cxE l.row.toRowW.prog w s.heap g tab K k) noPH s.heap [.scr ns] [.ref R]:=by
    refine⟨_,_,rfl,⟨R,o',n,vs,rfl,e1,e2,e3,by simpa using e5,λi k e=> ?_⟩,rfl⟩;obtain⟨t,W⟩:=e6 i k e;exact⟨t,by simpa using W⟩
   refine YI (U callerA [] s [.ref R] ak m I) (λv s' hv=> ?_) λo0 o0 x=>Vl.Internal.XP.none x;obtain⟨p,aj,X,h2,h3,h4,rfl⟩:=hv;change _=_ at X;subst X;refine GoodW.toG ⟨.inl ⟨.bool Jc,.bool Jc,[],rfl,λal=>rfl,.bool Jc,?_,λo0=>⟨List.nodup_nil,λa ha=>by cases ha⟩⟩,λb o e=>h2.base b o e,h4.2,h4.1.trans hg⟩;show(WShape.has [] (.bool Jc) .bool&&WTm.holds [] (.eq .res<|.lit (.bool Jc)) _)=Jc;rw[t4,sg];rfl
end
set_option genCtorIdx false in
inductive D where
 |none
 |bool(b:Bool)
 |int(i:Int)
 |str(s:String)
 |tup(l:List D)
 |list(l:List D)
 |scr(l:List Int)
 |hole
 |dict(ks:List (List KA))(l:List D)
 |inst(c:String)(l:List D)
noncomputable abbrev D.ctorIdx(x:D):Nat:=D.casesOn x 0 (λo0=>1) (λo0=>2) (λo0=>3) (λo0=>4) (λo0=>5) (λo0=>6) 7 (λo0 o0=>8) (λo0 o0=>9)
mutual
noncomputable def D.atom:D->Bool
 | .tup l=>D.atoms l
 | .list _=>Jd
 | .inst _ l=>D.atoms l
 | .dict _ _=>Jd
 |_=>Jc
noncomputable def D.atoms:List D->Bool
 |[]=>Jc
 |d::ds=>D.atom d&&D.atoms ds
end
mutual
noncomputable def RdF(σ:PH):D->PV->List Jg->Prop
 | .none,v,F=>v= .none/\F=[]
 | .bool b,v,F=>v= .bool b/\F=[]
 | .int i,v,F=>v= .int i/\F=[]
 | .str s,v,F=>v= .str s/\F=[]
 | .scr l,v,F=>(v= .scr l/\l.length<=lim)/\F=[]
 | .hole,_,F=>F=[]
 | .inst c ds,v,F=>X3 λa d l=>A4 (v= .ref a) (σ a=Ja (.inst d)) (σ d=Ja (.fd c l))<|RdFs σ ds l F
 | .dict ks ds,v,F=>X3 λa l G=>A5 (v= .ref a) (σ a=Ja (.dict ks l)) ((l.length<=lim/\ks.length=l.length)) (F=a::G)<|RdFs σ ds l G
 | .tup ds,v,F=>∃l,v= .tup l/\l.length<=lim/\RdFs σ ds l F
 | .list ds,v,F=>X3 λa l G=>A5 (v= .ref a) (σ a=Ja (.list l)) (l.length<=lim) (F=a::G)<|RdFs σ ds l G
noncomputable def RdFs(σ:PH):List D->List PV->List Jg->Prop
 |[],l,F=>l=[]/\F=[]
 |d::ds,l,F=>X4 λp ps j N=>A4 (l=p::ps) (F=j++N) (RdF σ d p j)<|RdFs σ ds ps N
end
noncomputable abbrev MO:={o:PO // o.fixed=Jd}
def Ext(σ σ':PH):Prop:=∀a o,σ a=Ja o->σ' a=Ja o
theorem Ext.refl(σ:PH):Ext σ σ:=λo0 o0 h=>h
theorem Ext.trans(x:Ext a b)(y:Ext b c):Ext a c:=λp o h=>y p o<|x p o h
theorem Ext.set{σ:PH}(h:σ a=Jb)(o:PO):Ext σ (σ.set a o):=λb p e=>by
 rw[PH.set_ne]
 ·exact e
 ·rintro rfl;exact ns<|h.symm.trans e
structure Ag(F:List Jg)(σ σ':PH):Prop where
 at_:∀a∈F,σ' a=σ a
 oth:∀a o,σ a=Ja o->o.fixed=Jc->σ' a=Ja o
theorem Ag.left(x:Ag (F++G) σ σ'):Ag F σ σ':=⟨λa h=>x.at_ a (Qk _ h),x.oth⟩
theorem Ag.right(x:Ag (F++G) σ σ'):Ag G σ σ':=⟨λa h=>x.at_ a (Qe _ h),x.oth⟩
theorem Ag.tail(x:Ag (a::G) σ σ'):Ag G σ σ':=⟨λb h=>x.at_ b (.tail _ h),x.oth⟩
mutual
theorem RdF.ag:∀ {d:D} {v:PV} {F:List Jg},RdF σ d v F->Ag F σ σ'->RdF σ' d v F
 | .none=>λr o0=>r
 | .bool _=>λr o0=>r
 | .int _=>λr o0=>r
 | .str _=>λr o0=>r
 | .scr _=>λr o0=>r
 | .hole=>λr o0=>r
 | .inst _ _=>λN x=>by obtain⟨a,d,l,E,Y,J,h⟩:=N;exact⟨a,d,l,E,x.oth a _ Y rfl,x.oth d _ J rfl,RdFs.ag h x⟩
 | .dict _ _=>λN x=>by obtain⟨a,l,G,E,Y,J,h,B⟩:=N;exact⟨a,l,G,E,(x.at_ a<|h▸ .head _).trans Y,J,h,RdFs.ag B (h▸x).tail⟩
 | .tup _=>λN x=>by obtain⟨l,E,Y,J⟩:=N;exact⟨l,E,Y,RdFs.ag J x⟩
 | .list _=>λN x=>by obtain⟨a,l,G,E,Y,J,h,B⟩:=N;exact⟨a,l,G,E,(x.at_ a<|h▸ .head _).trans Y,J,h,RdFs.ag B (h▸x).tail⟩
theorem RdFs.ag:∀ {ds:List D} {l:List PV} {F:List Jg},RdFs σ ds l F->Ag F σ σ'->RdFs σ' ds l F
 |[]=>λr o0=>r
 |_::_=>λN x=>by obtain⟨p,ps,j,q,E,Y,J,h⟩:=N;exact⟨p,ps,j,q,E,Y,RdF.ag J (Y▸x).left,RdFs.ag h (Y▸x).right⟩
end
mutual
theorem RdF.dom:∀ {d:D} {v:PV} {F:List Jg},RdF σ d v F->∀a∈F,∃l:MO,σ a=Ja l.1
 | .none=>λr a h=>by rw[r.2] at h;cases h
 | .bool _=>λr a h=>by rw[r.2] at h;cases h
 | .int _=>λr a h=>by rw[r.2] at h;cases h
 | .str _=>λr a h=>by rw[r.2] at h;cases h
 | .scr _=>λr a h=>by rw[r.2] at h;cases h
 | .hole=>λr a h=>by rw[show _=[] from r] at h;cases h
 | .inst _ _=>λN a h=>by obtain⟨o0,o0,l,E,Y,J,w⟩:=N;exact RdFs.dom w a h
 | .dict _ _=>λN a h=>by
  obtain⟨b,l,G,E,Y,J,w,B⟩:=N;rw[w] at h;cases h with
  |head=>exact⟨⟨_,rfl⟩,Y⟩
  |tail _ h=>exact RdFs.dom B a h
 | .tup _=>λN a h=>by obtain⟨l,E,Y,J⟩:=N;exact RdFs.dom J a h
 | .list _=>λN a h=>by
  obtain⟨b,l,G,E,Y,J,w,B⟩:=N;rw[w] at h;cases h with
  |head=>exact⟨⟨_,rfl⟩,Y⟩
  |tail _ h=>exact RdFs.dom B a h
theorem RdFs.dom:∀ {ds:List D} {l:List PV} {F:List Jg},RdFs σ ds l F->∀a∈F,∃l:MO,σ a=Ja l.1
 |[]=>λr a h=>by rw[r.2] at h;cases h
 |_::_=>λN a h=>by
  obtain⟨p,ps,j,q,E,Y,J,w⟩:=N;rw[Y] at h
  rcases Qr.mp h with h|h
  ·exact RdF.dom J a h
  ·exact RdFs.dom w a h
end
theorem Ag.of_ext(x:Ext σ σ')(h:∀a∈F,∃l:MO,σ a=Ja l.1):Ag F σ σ':=⟨λa T=>by obtain⟨l,e⟩:=h a T;exact(x a _ e).trans e.symm,λa o0 e o0=>x a _ e⟩
theorem RdF.ext{d:D}(r:RdF σ d v F)(x:Ext σ σ'):RdF σ' d v F:=r.ag<|.of_ext x r.dom
theorem RdFs.ext{d:List D}(r:RdFs σ d v F)(x:Ext σ σ'):RdFs σ' d v F:=r.ag<|.of_ext x r.dom
mutual
theorem RdF.atom:∀ {d:D} {v:PV} {F:List Jg},RdF σ d v F->d.atom=Jc->F=[]
 | .none=>λr o0=>r.2
 | .bool _=>λr o0=>r.2
 | .int _=>λr o0=>r.2
 | .str _=>λr o0=>r.2
 | .scr _=>λr o0=>r.2
 | .hole=>λr o0=>r
 | .inst _ _=>λN h=>by obtain⟨o0,o0,l,E,Y,J,w⟩:=N;exact RdFs.atom w h
 | .dict _ _=>λo0 h=>ft h
 | .tup _=>λN h=>by obtain⟨l,E,Y,J⟩:=N;exact RdFs.atom J h
 | .list _=>λo0 h=>ft h
theorem RdFs.atom:∀ {d:List D} {v:List PV} {F:List Jg},RdFs σ d v F->D.atoms d=Jc->F=[]
 |[]=>λr o0=>r.2
 |_::_=>λN h=>by
  obtain⟨p,ps,j,q,E,Y,J,w⟩:=N;obtain⟨a,b⟩:=Qg.mp h;rw[Y,RdF.atom J a,RdFs.atom w b];rfl
end
abbrev Tag:=Option<|List String
noncomputable def tj:Tag->Tag->Tag
 |none,t=>t
 |some a,Jb=>Ja a
 |some a,Ja b=>Ja<|a++b
noncomputable def tg0(d:D)(t:Tag):Tag:=cond d.atom Jb t
def tgl(l:List D)(t:Tag):Tag:=cond (D.atoms l) Jb t
noncomputable def tjs:List (D×Tag)->Tag
 |[]=>Jb
 |p::r=>tj p.2<|tjs r
noncomputable abbrev fsts(l:List (D×Tag)):List D:=l.map (·.1)
noncomputable abbrev flags(l:List (D×Tag)):List (D×Bool):=l.map λp=>(p.1,p.2.isNone)
abbrev DRho:=List<|String×Option (D×Bool)
noncomputable def DRho.get:DRho->String->Option (D×Bool)
 |[],_=>Option.none
 |(y,v)::r,x=>cond (y==x) v<|DRho.get r x
noncomputable def DRho.put:DRho->String->D×Bool->DRho
 |[],_,_=>[]
 |(y,o)::r,x,v=>cond (y==x) ((y,Ja v)::r) ((y,o)::DRho.put r x v)
theorem DRho.get_if(y:String)(v:Option (D×Bool))(r:DRho)(x:String):DRho.get ((y,v)::r) x=if y=x then v else DRho.get r x:=by
 show cond (y==x) _ _=_;by_cases h:y=x
 ·rw[Ua h,beq_iff_eq.mpr h];rfl
 ·rw[Y9 h,beq_eq_false_iff_ne.mpr h];rfl
theorem DRho.put_if(y:String)(o:Option (D×Bool))(r:DRho)(x:String)(v:D×Bool):DRho.put ((y,o)::r) x v=if y=x then(y,Ja v)::r else(y,o)::DRho.put r x v:=by
 show cond (y==x) _ _=_;by_cases h:y=x
 ·rw[Ua h,beq_iff_eq.mpr h];rfl
 ·rw[Y9 h,beq_eq_false_iff_ne.mpr h];rfl
noncomputable def hasS:List String->String->Bool
 |[],_=>Jd
 |y::r,x=>y==x||hasS r x
theorem mJ(x:String):∀xs:List String,hasS xs x=xs.contains x
 |[]=>rfl
 |y::r=>by rw[KZ,<-mJ x r,Bool.beq_comm];rfl
noncomputable def DRho.puts:DRho->List String->List D->Bool->DRho
 |L,x::s,v::w,b=>DRho.puts (L.put x (v,b)) s w b
 |L,_,_,_=>L
def DRho.frz(L:DRho):Tag->DRho
 |Option.none=>L
 |some x=>L.map λp=>(p.1,cond (hasS x p.1) (p.2.map λq=>(q.1,q.1.atom&&q.2)) p.2)
noncomputable def Nb(x:String)(b:Bool)(v:D)(r:DRho):DRho:=(x,Ja (v,b))::r
noncomputable def No(x:String)(o:Option (D×Bool))(r:DRho):DRho:=(x,o)::r
abbrev DQ:=D->Tag->Prop
abbrev DX:=String->List D->Prop
structure DCl where
 c:String->List (D×Bool)->(D->Bool->Prop)->DX->Prop
 io:String->Nat->List (D×Bool)->(D->Prop)->Prop
instance:CoeFun DCl λo0=>String->List (D×Bool)->(D->Bool->Prop)->DX->Prop:=⟨DCl.c⟩
def dnew(l:List D)(t:Tag)(Q:DQ):Prop:=l.length<=lim/\Q (.list l) t
def dtup(l:List D)(t:Tag)(Q:DQ):Prop:=l.length<=lim/\Q (.tup l) t
noncomputable def dInt(K:Int->Prop):D->Prop
 | .int x=>K x
 |_=>False
noncomputable def dBool(K:Bool->Prop):D->Prop
 | .bool x=>K x
 |_=>False
noncomputable def dDct(K:List (List KA)->List D->Prop):D->Prop
 | .dict k l=>K k l
 |_=>False
inductive WitDD(K:List (List KA)->List D->Prop)(v:D):Prop
 |mk (ks:List (List KA)) (l:List D) (e:v= .dict ks l) (k:K ks l):WitDD K v
theorem oO{K:List (List KA)->List D->Prop}(h:dDct K v):WitDD K v:=by
 induction v using D.casesOn with
 |dict k l=>exact⟨k,l,rfl,h⟩
 |_=>exact h.elim
noncomputable def dLst(K:List D->Prop):D->Prop
 | .list x=>K x
 |_=>False
theorem ew{K:Int->Prop}(h:dInt K v):Wit D.int v K:=by
 induction v using D.casesOn with
 |int x=>exact⟨x,rfl,h⟩
 |_=>exact h.elim
theorem eI{K:Bool->Prop}(h:dBool K v):Wit D.bool v K:=by
 induction v using D.casesOn with
 |bool x=>exact⟨x,rfl,h⟩
 |_=>exact h.elim
theorem gz{K:List D->Prop}(h:dLst K v):Wit D.list v K:=by
 induction v using D.casesOn with
 |list x=>exact⟨x,rfl,h⟩
 |_=>exact h.elim
def dadd(a b:D)(F t:Tag)(Q:DQ):Prop:=
 match a with
 | .int x=>dInt (λy=>Q (.int (x+y)) Jb) b
 | .list x=>dLst (λy=>dnew (x++y) (tgl (x++y) (tj F t)) Q) b
 |_=>False
def dbin(o:BOp)(a b:D)(F t:Tag)(Q:DQ):Prop:=
 match o with
 | .add=>dadd a b F t Q
 | .sub=>dInt (λx=>dInt (λy=>Q (.int (x-y)) Jb) b) a
 | .mul=>dInt (λx=>dInt (λy=>(x.natAbs<2^64\/y.natAbs<2^64)/\Q (.int (x*y)) Jb) b) a
 | .fdiv=>dInt (λx=>dInt (λy=>y≠0/\y.natAbs<1073741824/\Q (.int (x.fdiv y)) Jb) b) a
 | .mod=>dInt (λx=>dInt (λy=>y≠0/\Q (.int (x.fmod y)) Jb) b) a
 | .pow _=>dInt (λx=>dInt (λy=>0<=y/\y<=1000/\x.natAbs<2^64/\Q (.int (x^y.toNat)) Jb) b) a
mutual
noncomputable def D.okd:Nat->D->Bool
 |_,.none=>Jc
 |_,.bool _=>Jc
 |_,.int _=>Jc
 |_,.str s=>PyData.strOk<|Qb s
 |n+1,.tup l=>D.okds n l
 |n+1,.list l=>D.okds n l
 |_,_=>Jd
noncomputable def D.okds:Nat->List D->Bool
 |_,[]=>Jc
 |n,d::ds=>D.okd n d&&D.okds n ds
end
mutual
noncomputable def D.py:D->YR
 | .none=> .none
 | .bool b=> .bool b
 | .int i=> .int i
 | .str s=> .str (Qb s)
 | .tup l=> .tuple (D.pys l)
 | .list l=> .list (D.pys l)
 |_=> .none
noncomputable def D.pys:List D->List YR
 |[]=>[]
 |d::ds=>D.py d::D.pys ds
end
noncomputable def D.eqv(a b:D):Bool:=PyData.eqv a.py b.py
def deq(a b:D)(Q:Bool->Prop):Prop:=(a.okd 40=Jc/\b.okd 40=Jc)/\Q (D.eqv a b)
noncomputable def kaD:D->Option KA
 | .int i=>Ja<|.n i
 | .str s=>Ja<|.t s
 |_=>Jb
noncomputable def kasD:List D->Option (List KA)
 |[]=>Ja []
 |p::r=>(kaD p).bind λk=>(kasD r).map (k:: ·)
def keyD:D->Option (List KA)
 | .tup l=>kasD l
 |_=>Jb
noncomputable def KA.d:KA->D
 | .n i=> .int i
 | .t s=> .str s
def keyDd(k:List KA):D:= .tup (k.map KA.d)
def dlook(ks:List (List KA))(l:List D)(k:List KA):Option D:=(kidx ks k).bind λj=>l[j]?
def dkset(ks:List (List KA))(l:List D)(k:List KA)(v:D):D:=match kidx ks k with
 |some j=> .dict ks (l.set j v)
 |none=> .dict (ks++[k]) (l++[v])
def din(a b:D)(Q:Bool->Prop):Prop:=match b with
 | .list l=>(a.okd 40=Jc/\D.okds 40 l=Jc)/\Q (l.any λd=>D.eqv d a)
 | .dict s _=>oK (λk=>Q (kidx s k).isSome) (keyD a)
 |_=>False
def drel(f:Int->Int->Bool)(a b:D)(Q:Bool->Prop):Prop:=dInt (λx=>dInt (λy=>Q (f x y)) b) a
def dcmp(o:COp)(a b:D)(Q:Bool->Prop):Prop:=
 match o with
 | .eq=>deq a b Q
 | .ne=>deq a b λr=>Q<|!r
 | .in_=>din a b Q
 | .nin=>din a b λr=>Q<|!r
 | .lt=>drel (λx y=>decide (x<y)) a b Q
 | .le=>drel (λx y=>decide (x<=y)) a b Q
 | .gt _=>drel (λx y=>decide (x>y)) a b Q
 | .ge=>drel (λx y=>decide (x>=y)) a b Q
noncomputable def dlen:D->Option Nat
 | .list l=>Ja l.length
 | .tup l=>Ja l.length
 | .scr l=>Ja l.length
 |_=>Jb
def dsub:D->D->Option D
 | .list l,.int k=>(place l.length k).bind λj=>l[j]?
 | .tup l,.int k=>(place l.length k).bind λj=>l[j]?
 | .scr l,.int k=>((place l.length k).bind λj=>l[j]?).map .int
 | .dict s l,i=>(keyD i).bind λk=>dlook s l k
 |_,_=>Jb
noncomputable def dInts:List D->Option (List Int)
 |[]=>Ja []
 | .int i::r=>(dInts r).map (i:: ·)
 |_=>Jb
noncomputable def iY:List D->Option (List Bool)
 |[]=>Ja []
 | .bool i::r=>(iY r).map (i:: ·)
 |_=>Jb
noncomputable def d1(K:D->Tag->Prop):List (D×Tag)->Prop
 |[(d,t)]=>K d t
 |_=>False
theorem zJ{K:D->Tag->Prop}(h:d1 K l):∃d t,l=[(d,t)]/\K d t:=by
 rcases l with o0|⟨⟨d,t⟩,o0|⟨o0,o0⟩⟩<;>first|exact h.elim|exact⟨d,t,rfl,h⟩
noncomputable def dSeq(K:List D->Prop):D->Prop
 | .tup l=>K l
 | .list l=>K l
 |_=>False
def dList(Q:DQ)(t:Tag):D->Prop
 | .tup l=>Q (.list l)<|tgl l t
 | .list l=>Q (.list l)<|tgl l t
 | .dict s _=>(s.length<=lim/\∀k∈s,k.length<=lim)/\Q (.list<|s.map keyDd) Jb
 |_=>False
def dMin(Q:DQ)(args:List (D×Tag)):Prop:=d1 (λv o0=>dLst (λl=>oIs (λis=>is≠ []/\Q (.int (lmin is)) Jb) (dInts l)) v) args
def dbi(b:BI)(args:List (D×Tag))(Q:DQ):Prop:=
 match b with
 | .len=>d1 (λd o0=>oNat (λn=>Q (.int n) Jb) (dlen d)) args
 | .all=>d1 (λd o0=>dLst (λl=>oBs (λbs=>Q (.bool (bs.all id)) Jb) (iY l)) d) args
 | .sum=>d1 (λd o0=>dLst (λl=>oIs (λis=>Q (.int is.sum) Jb) (dInts l)) d) args
 | .int=>d1 (λd o0=>dBool (λx=>Q (.int (if x then 1 else 0)) Jb) d) args
 | .list=>d1 (λd t=>dList Q t d) args
 | .min=>dMin Q args
 | .sorted=>d1 (λd o0=>dLst (λl=>oIs (λis=>is.length<64/\∀js:List Int,js.Perm is->js.Pairwise (· <= ·)->Q (.list (js.map .int)) Jb) (dInts l)) d) args
 | .dict _=>d1 (λd o0=>dDct (λks l=>(ks≠ []/\(∀k∈ks,dK k=Jc)/\D.atoms l=Jc)/\Q (.dict ks l) Jb) d) args
noncomputable def disi(G:Gx)(d:D)(t:List String):Option Bool:=
 match d with
 | .none=>Ja Jd
 | .str _=>Ja Jd
 | .bool _=>Ja (t.contains "bool"||t.contains "int")
 | .int _=>Ja<|t.contains "int"
 | .tup _=>Ja<|t.contains "tuple"
 | .list _=>Ja<|t.contains "list"
 |_=>Jb
noncomputable def dS1(K:D->Prop):List D->Prop
 |[v]=>K v
 |_=>False
theorem m9{K:D->Prop}(h:dS1 K l):∃v,l=[v]/\K v:=by
 rcases l with o0|⟨v,o0|⟨o0,o0⟩⟩<;>first|exact h.elim|exact⟨v,rfl,h⟩
noncomputable def enumD:Nat->List D->List D
 |_,[]=>[]
 |i,x::r=> .tup [.int (i:Nat),x]::enumD (i+1) r
def dsrc(k:IK)(vs:List D)(K:List D->Prop):Prop:=
 match k with
 | .val=>dS1 (λv=>dSeq K v) vs
 | .range=>dS1 (λv=>dInt (λn=>(-1000000<n/\n<=1000000)/\K ((Qc n.toNat).map λ(i:Nat)=> .int i)) v) vs
 | .enum=>dS1 (λv=>dLst (λl=>K (enumD 0 l)) v) vs
noncomputable def eD:Tg->D->Bool->DRho->Option DRho
 | .name x,v,b,L=>Ja<|L.put x (v,b)
 | .tup s,.tup w,b,L=>if w.length=s.length then Ja (L.puts s w b) else Jb
 |_,_,_,_=>Jb
noncomputable def hM(tg:Tg)(L:DRho):DRho:=(".0",Jb)::((tg.names.map λx=>(x,Jb))++L)
def bq(tg:Tg)(v:D)(L:DRho):Option DRho:=eD tg v Jd<|hM tg L
noncomputable def dOR(K:DRho->Prop):Option DRho->Prop
 |some v=>K v
 |none=>False
theorem gS{K:DRho->Prop}(h:dOR K o):Wit Ja o K:=by
 induction o with
 |none=>exact h.elim
 |some v=>exact⟨v,rfl,h⟩
noncomputable def dOD(K:D->Prop):Option D->Prop
 |some v=>K v
 |none=>False
theorem gO{K:D->Prop}(h:dOD K o):Wit Ja o K:=by
 induction o with
 |none=>exact h.elim
 |some v=>exact⟨v,rfl,h⟩
noncomputable def dOE(K:D×Bool->Prop):Option (D×Bool)->Prop
 |some v=>K v
 |none=>False
theorem ey{K:D×Bool->Prop}(h:dOE K o):Wit Ja o K:=by
 induction o with
 |none=>exact h.elim
 |some v=>exact⟨v,rfl,h⟩
noncomputable def iT:D->Bool
 | .hole=>Jc
 |_=>Jd
noncomputable def D.isNone:D->Bool
 | .none=>Jc
 |_=>Jd
def pZ(f:List D->List D)(ok:Nat->Prop)(t:Tag)(Q:DQ):D->Prop
 | .list l=>Q (.list<|f l)<|tgl (f l) t
 |_=>False
noncomputable def dglob(Q:DQ):Option PV->Prop
 |some (.int i)=>Q (.int i) Jb
 |some (.str i)=>Q (.str i) Jb
 |_=>False
def tout(ns:List String)(t:Tag):Tag->Tag
 |none=>Jb
 |some s=>tj (Ja (s.filter λx=> !ns.contains x)) t
noncomputable def dcomp(tg:Tg)(L:DRho)(s:Tag)(tst:DRho->(Bool->Prop)->Prop)(el:DRho->DQ->Prop):List D->List D->Tag->(List D->Tag->Prop)->Prop
 |[],a,t,K=>K a t
 |x::w,a,t,K=>dOR (λP=>tst P λb=>cond b (el P λd u=>dcomp tg L s tst el w (a++[d]) (tj t (tout tg.names s u)) K) (dcomp tg L s tst el w a t K)) (bq tg x L)
def dget(t:Tag)(Q:DQ):Option D->Prop
 |some d=>Q d<|tg0 d t
 |none=>Q (.list []) Jb
noncomputable def dfld(G:Gx)(f:String):D->Option D
 | .inst c l=>((G.flds c).idxOf? f).bind λj=>l[j]?
 |_=>Jb
noncomputable def dIns(c:String):D->Prop
 | .inst Q _=>Q=c
 |_=>False
mutual
noncomputable def dwe(G:Gx)(cl:DCl):E->DRho->DQ->DX->Prop
 | .none,_,Q,_=>Q .none Jb
 | .bool b,_,Q,_=>Q (.bool b) Jb
 | .int i,_,Q,_=>Q (.int i) Jb
 | .str s,_,Q,_=>Q (.str s) Jb
 | .loc x,Δ,Q,_=>dOE (λp=>Q p.1 (tg0 p.1 (Ja [x]))) (Δ.get x)
 | .glob x,_,Q,_=>dglob Q<|G.glob x
 | .bin op a b,Δ,Q,X=>dwe G cl a Δ (λva ta=>dwe G cl b Δ (λvb tb=>dbin op va vb ta tb Q) X) X
 | .not_ a,Δ,Q,X=>dwe G cl a Δ (λv o0=>dBool (λb=>Q (.bool !b) Jb) v) X
 | .and_ a b,Δ,Q,X=>dwe G cl a Δ (λv o0=>dBool (λb'=>cond b' (dwe G cl b Δ Q X) (Q (.bool Jd) Jb)) v) X
 | .or_ a b,Δ,Q,X=>dwe G cl a Δ (λv o0=>dBool (λb'=>cond b' (Q (.bool Jc) Jb) (dwe G cl b Δ Q X)) v) X
 | .isNone a,Δ,Q,X=>dwe G cl a Δ (λv o0=>iT v=Jd/\Q (.bool v.isNone) Jb) X
 | .notNone a,Δ,Q,X=>dwe G cl a Δ (λv o0=>iT v=Jd/\Q (.bool !v.isNone) Jb) X
 | .cmp op a b,Δ,Q,X=>dwe G cl a Δ (λva o0=>dwe G cl b Δ (λvb o0=>dcmp op va vb λr=>Q (.bool r) Jb) X) X
 | .cmp2 a o1 b o2 c,Δ,Q,X=>dwe G cl a Δ (λva o0=>dwe G cl b Δ (λvb o0=>dcmp o1 va vb λr=>
   cond r (dwe G cl c Δ (λvc o0=>dcmp o2 vb vc λr=>Q (.bool r) Jb) X) (Q (.bool Jd) Jb)) X) X
 | .tup l,Δ,Q,X=>dwes G cl l Δ (λvs=>dtup (fsts vs) (tjs vs) Q) X
 | .list l,Δ,Q,X=>dwes G cl l Δ (λvs=>dnew (fsts vs) (tjs vs) Q) X
 | .sub a i,Δ,Q,X=>dwe G cl a Δ (λva ta=>dwe G cl i Δ (λvi o0=>dOD (λv=>Q v (tg0 v ta)) (dsub va vi)) X) X
 | .upto a hi,Δ,Q,X=>dwe G cl a Δ (λva ta=>dwe G cl hi Δ (λvi o0=>dInt (λk=>pZ (λl=>l.take (cut l.length k)) (λn=>0<=k/\k<n) ta Q va) vi) X) X
 | .from_ a lo,Δ,Q,X=>dwe G cl a Δ (λva ta=>dwe G cl lo Δ (λvi o0=>dInt (λk=>pZ (λl=>l.drop (cut l.length k)) (λn=>1<=k/\k<=n) ta Q va) vi) X) X
 | .comp elt tg k it,Δ,Q,X=>G.calm=Jc/\dwes G cl it Δ (λvs=>dsrc k (fsts vs) λxs=>
   dcomp tg Δ (tjs vs) (λo0 K=>K Jc) (λΔ' K=>dwe G cl elt Δ' K λo0 o0=>False) xs [] Jb λacc t=>Q (.list acc) t) X
 | .compIf elt tg k it cond,Δ,Q,X=>G.calm=Jc/\dwes G cl it Δ (λvs=>dsrc k (fsts vs) λxs=>
   dcomp tg Δ (tjs vs) (λΔ' K=>dwe G cl cond Δ' (λv o0=>dBool K v) λo0 o0=>False) (λΔ' K=>dwe G cl elt Δ' K λo0 o0=>False) xs [] Jb λacc t=>Q (.list acc) t) X
 | .call f args,Δ,Q,X=>G.fn f=Jc/\dwes G cl args Δ (λvs=>cl f (flags vs) (λd b=>Q d (tg0 d (cond b Jb (tj (Ja []) (tjs vs))))) X) X
 | .bi b args,Δ,Q,X=>G.calm=Jc/\dwes G cl args Δ (λvs=>dbi b vs Q) X
 | .isi a ts,Δ,Q,X=>stat ts=Jc/\dwe G cl a Δ (λv o0=>oB (λb=>Q (.bool b) Jb) (disi G v ts)) X
 | .meth ..,_,_,_=>False
 | .dict0,_,Q,_=>G.full=Jc/\Q (.dict [] []) Jb
 | .get a k,Δ,Q,X=>dwe G cl a Δ (λva ta=>dDct (λks l=>dwe G cl k Δ (λvk o0=>oK (λk=>dget ta Q (dlook ks l k)) (keyD vk)) X) va) X
 | .sd ..,_,_,_=>False
 | .attr x f,Δ,Q,_=>dOE (λp=>dOD (λd=>Q d (tg0 d (Ja [x]))) (dfld G f p.1)) (Δ.get x)
 | .mcall c f o args,Δ,Q,X=>G.fn f=Jc/\dwe G cl o Δ (λdr tr=>dIns c dr/\dwes G cl args Δ (λvs=>cl f (flags ((dr,tr)::vs)) (λd b=>Q d (tg0 d (cond b Jb (tj (Ja []) (tjs ((dr,tr)::vs)))))) X) X) X
noncomputable def dwes(G:Gx)(cl:DCl):List E->DRho->(List (D×Tag)->Prop)->DX->Prop
 |[],_,Q,_=>Q []
 |e::es,Δ,Q,X=>dwe G cl e Δ (λv t=>dwes G cl es Δ (λvs=>Q ((v,t)::vs)) X) X
end
noncomputable abbrev Disj(F G:List Jg):Prop:=∀a∈F,a∉G
structure PartOK(σ:PH)(fp:String->List Jg)(t:Tag)(F:List Jg):Prop where
 own:t=Jb->F.Nodup/\∀a∈F,σ a=Jb
 al:∀xs,t=Ja xs->∀a∈F,σ a=Jb\/∃x∈xs,a∈fp x
structure ER(σ:PH)(fp:String->List Jg)(σ':PH)(d:D)(t:Tag)(v:PV)(F:List Jg):Prop where
 rd:RdF σ' d v F
 ext:Ext σ σ'
 part:PartOK σ fp t F
noncomputable def fset(f:String->List Jg)(x:String)(F:List Jg):String->List Jg:=λy=>if y=x then F else f y
theorem c9{f:String->List Jg}:fset f x F x=F:=Ua rfl
theorem cr{f:String->List Jg}(h:y≠x):fset f x F y=f y:=Y9 h
structure EnvE(σ:PH)(Δ:DRho)(ρ:Rho)(fp:String->List Jg):Prop where
 at_:∀x d b,Δ.get x=Ja (d,b)->∃v,ρ.get x=Ja v/\RdF σ d v (fp x)
 dom:∀x,∀a∈fp x,∃l:MO,σ a=Ja l.1
 keys:Δ.map (·.1)=ρ.map (·.1)
theorem EnvE.ext{f:String->List Jg}(h:EnvE σ j L f)(x:Ext σ σ'):EnvE σ' j L f:=⟨λy d b e=>by obtain⟨v,N,p⟩:=h.at_ y d b e;exact⟨v,N,p.ext x⟩,λy a T=>by obtain⟨l,e⟩:=h.dom y a T;exact⟨l,x a _ e⟩,h.keys⟩
theorem Ext.new(x:Ext σ σ')(h:σ' a=Jb):σ a=Jb:=by
 induction e:σ a with
 |none=>rfl
 |some o=>exact sn<|(x a o e).symm.trans h
theorem PartOK.nil{f:String->List Jg}:PartOK σ f t []:=⟨λo0=>⟨.nil,λa h=>(bQ h)⟩,λx o0 a h=>(bQ h)⟩
theorem PartOK.from{f:String->List Jg}(h:PartOK σ1 f t F)(x:Ext σ σ1):PartOK σ f t F:=
 ⟨λe=>⟨(h.own e).1,λa T=>x.new<|(h.own e).2 a T⟩,λs e a T=>(h.al s e a T).imp_left x.new⟩
theorem ER.from{f:String->List Jg}{d:D}(h:ER σ1 f σ' d t v F)(x:Ext σ σ1):ER σ f σ' d t v F:=⟨h.rd,x.trans h.ext,h.part.from x⟩
theorem ER.at0{f:String->List Jg}{d:D}(x:Ext σ σ')(r:RdF σ' d v []):ER σ f σ' d t v []:=⟨r,x,.nil⟩
theorem PartOK.tg0{f:String->List Jg}{d:D}(h:PartOK σ f t F)(r:RdF σ' d v F):PartOK σ f (tg0 d t) F:=by
 unfold Vl.Internal.tg0
 induction e:d.atom with
 |true=>rw[r.atom e];exact .nil
 |false=>exact h
theorem PartOK.tgl{f:String->List Jg}{d:List D}(h:PartOK σ f t F)(r:RdFs σ' d v F):PartOK σ f (tgl d t) F:=by
 unfold Vl.Internal.tgl
 induction e:D.atoms d with
 |true=>rw[r.atom e];exact .nil
 |false=>exact h
theorem mI(h:tj a b=Jb):a=Jb/\b=Jb:=by
 induction a with
 |none=>exact⟨rfl,h⟩
 |some x=>rcases b with⟨⟩<;>exact sn h
theorem ud(h:tj a b=Ja xs):(∀ys,a=Ja ys->∀y∈ys,y∈xs)/\(∀ys,b=Ja ys->∀y∈ys,y∈xs):=by
 induction a with
 |none=>exact⟨λys e=>(ns e),λys e y W=>by cases h.symm.trans e;exact W⟩
 |some x=>induction b with
  |none=>obtain rfl:=sj h;exact⟨λys e y W=>by obtain rfl:=sj e;exact W,λys e=>(ns e)⟩
  |some y=>obtain rfl:=sj h;exact⟨λys e z v=>by obtain rfl:=sj e;exact Qk _ v,λys e z v=>by obtain rfl:=sj e;exact Qe _ v⟩
theorem PartOK.wide{f:String->List Jg}(h:PartOK σ f t F)(k:∀ys,t=Ja ys->∀y∈ys,y∈xs):PartOK σ f (Ja xs) F:=
 ⟨λe=>(sn e),λzs e a T=>by
  obtain rfl:=sj e
  induction W:t with
  |none=>exact .inl<|(h.own W).2 a T
  |some ys=>exact(h.al ys W a T).imp_right λz=>by obtain⟨x,hx,w⟩:=z;exact⟨x,k ys W x hx,w⟩⟩
theorem PartOK.join{f:String->List Jg}(h:PartOK σ f s F)(k:PartOK σ f t G)(d:s=Jb->t=Jb->Disj F G):PartOK σ f (tj s t) (F++G):=by
 refine⟨λe=> ?_,λx e a T=> ?_⟩
 ·obtain⟨p,w⟩:=mI e;refine⟨Qu.mpr ⟨(h.own p).1,(k.own w).1,λa T b R q=>d p w a T<|q▸R⟩,λa T=> ?_⟩
  rcases Qr.mp T with T|T
  ·exact(h.own p).2 a T
  ·exact(k.own w).2 a T
 ·obtain⟨m,M⟩:=ud e
  rcases Qr.mp T with T|T
  ·exact(h.wide m).al x rfl a T
  ·exact(k.wide M).al x rfl a T
theorem PartOK.sub{f:String->List Jg}{F G:List Jg}(h:PartOK σ f t F)(s:G.Sublist F):PartOK σ f t G:=
 ⟨λe=>⟨(h.own e).1.sublist s,λa T=>(h.own e).2 a (s.subset T)⟩,λx e a T=>h.al x e a<|s.subset T⟩
theorem PartOK.cons{fp:String->List Jg}(h:PartOK σ fp t F)(ha:σ a=Jb)(hf:a∉F):PartOK σ fp t (a::F):=
 ⟨λe=>⟨Qx.mpr ⟨hf,(h.own e).1⟩,λb hb=>by cases hb with|head=>exact ha|tail _ hb=>exact(h.own e).2 b hb⟩,
  λxs e b hb=>by cases hb with|head=>exact .inl ha|tail _ hb=>exact h.al xs e b hb⟩
inductive ERs(σ:PH)(fp:String->List Jg)(σ':PH):List (D×Tag)->List PV->List (List Jg)->Prop
 |nil:ERs σ fp σ' [] [] []
 |cons {d:D} {t:Tag} {v:PV} {F:List Jg} {ds:List (D×Tag)} {vs:List PV} {Fs:List (List Jg)}:RdF σ' d v F->PartOK σ fp t F->
   (∀p∈ds.zip Fs,(t=Option.none\/p.1.2=Option.none)->Disj F p.2)->ERs σ fp σ' ds vs Fs->ERs σ fp σ' ((d,t)::ds) (v::vs) (F::Fs)
theorem ERs.rds{f:String->List Jg}{F:List (List Jg)}(h:ERs σ f σ' ds vs F):RdFs σ' (fsts ds) vs F.flatten:=by
 induction h with
 |nil=>exact⟨rfl,rfl⟩
 |cons r p q h i=>exact⟨_,_,_,_,rfl,rfl,r,i⟩
theorem ERs.lens{f:String->List Jg}{ds:List (D×Tag)}{vs:List PV}{F:List (List Jg)}(h:ERs σ f σ' ds vs F):vs.length=ds.length/\F.length=ds.length:=by
 induction h with
 |nil=>exact⟨rfl,rfl⟩
 |cons r p q h i=>exact⟨Ud (· +1) i.1,Ud (· +1) i.2⟩
theorem ERs.part{f:String->List Jg}{s:List (List Jg)}(h:ERs σ f σ' ds vs s):PartOK σ f (tjs ds) s.flatten:=by
 induction h with
 |nil=>exact .nil
 |@cons d t v F ds vs s r p q h W=>
  refine p.join W λe w a T b=> ?_;obtain⟨G,C,b⟩:=List.mem_flatten.mp b;obtain⟨i,V,rfl⟩:=Wi C;have l:=h.lens.2;exact q (ds[i],s[i]) (List.mem_iff_getElem.mpr ⟨i,by rw[List.length_zip];exact Nat.lt_min.mpr ⟨zq V l,V⟩,List.getElem_zip⟩) (.inl e) a T b
def jw(O:List Jg)(σ σ':PH):Prop:=∀a o,σ a=Ja o->a∉O->σ' a=Ja o
structure ResOK(σ:PH)(O As:List Jg)(σ':PH)(d:D)(b:Bool)(v:PV)(F:List Jg):Prop where
 rd:RdF σ' d v F
 kept:jw O σ σ'
 own:b=Jc->F.Nodup/\∀a∈F,σ a=Jb\/a∈O
 al:∀a∈F,σ a=Jb\/a∈As
structure ResX(σ:PH)(O:List Jg)(σ':PH)(ds:List D)(ws:List PV)(F:List Jg):Prop where
 rd:RdFs σ' ds ws F
 kept:jw O σ σ'
 nd:F.Nodup
 own:∀a∈F,σ a=Jb\/a∈O
structure XOK(σ σ':PH)(ds:List D)(ws:List PV)(F:List Jg):Prop where
 rd:RdFs σ' ds ws F
 ext:Ext σ σ'
 nd:F.Nodup
 own:∀a∈F,σ a=Jb
theorem XOK.from{ws:List PV}(h:XOK σ1 σ' ds ws F)(x:Ext σ σ1):XOK σ σ' ds ws F:=⟨h.rd,x.trans h.ext,h.nd,λa T=>x.new (h.own a T)⟩
inductive ArgsR(σ:PH):List (D×Bool)->List PV->List (List Jg)->Prop
 |nil:ArgsR σ [] [] []
 |cons {d:D} {b:Bool} {v:PV} {F:List Jg} {ds:List (D×Bool)} {vs:List PV} {Fs:List (List Jg)}:RdF σ d v F->(b=Jc->F.Nodup)->
   (∀p∈ds.zip Fs,(b=Jc\/p.1.2=Jc)->Disj F p.2)->ArgsR σ ds vs Fs->ArgsR σ ((d,b)::ds) (v::vs) (F::Fs)
noncomputable def owned:List (D×Bool)->List (List Jg)->List Jg
 |(_,b)::d,F::s=>(if b then F else [])++owned d s
 |_,_=>[]
def yg(cv:Cl)(f:String)(args:List (D×Bool))(Q:D->Bool->Prop)(X:DX):Prop:=∀ (t:PH) (w:List PV) (s:List (List Jg)) (r:Post) (H:XPost),ArgsR t args w s->
 (∀d b v T F,Q d b->ResOK t (owned args s) s.flatten T d b v F->r v T)->(∀c z ws T F,X c z->ResX t (owned args s) T z ws F->H ⟨c,ws⟩ T)->cv f w t r H
structure IoOK(σ:PH)(O:List Jg)(σ':PH)(d:D)(v:PV)(F:List Jg):Prop where
 rd:RdF σ' d v F
 nd:F.Nodup
 own:∀a∈F,σ a=Jb\/a∈O
 kept:jw O σ σ'
def ym(cv:Cl)(f:String)(i:Nat)(args:List (D×Bool))(Q:D->Prop):Prop:=∀ (t:PH) (s:List PV) (w:List (List Jg)) (r:Post) (H:XPost) (v:PV),ArgsR t args s w->s[i]? =Ja v->
 (∀d X F,Q d->IoOK t (owned args w) X d v F->r .none X)->cv f s t r H
noncomputable def aR(cv:Cl):DCl:=⟨yg cv,ym cv⟩
theorem ERs.args{f:String->List Jg}(h:ERs σ f σ' ds vs s):ArgsR σ' (flags ds) vs s:=by
 induction h with
 |nil=>exact .nil
 |@cons d t v F ds vs s r p q h i=>
  refine .cons r (λe=>(p.own<|Kd.mp e).1) (λx hx e=> ?_) i;rw[List.zip_map_left] at hx;obtain⟨y,W,rfl⟩:=Ql.mp hx;exact q y W<|e.imp Kd.mp Kd.mp
theorem ERs.owned{f:String->List Jg}(h:ERs σ f σ' ds vs s):∀a∈owned (flags ds) s,σ a=Jb:=by
 induction h with
 |nil=>intro a T;cases T
 |@cons d t v F ds vs s r p q h i=>
  intro a T
  rcases Qr.mp (show a∈(if t.isNone then F else [])++Vl.Internal.owned (flags ds) s from T) with T|T
  ·induction t with
   |none=>exact(p.own rfl).2 a T
   |some x=>cases T
  ·exact i a T
section
variable(G:Gx)(cv:Cl)
def DOK(e:E):Prop:=∀ (j:DRho) (L:Rho) (f:String->List Jg) (W:PH) (Q:DQ) (X:DX) (r:Post) (H:XPost),EnvE W j L f->dwe G (aR cv) e j Q X->
 (∀d t v T F,Q d t->ER W f T d t v F->r v T)->(∀c s ws T F,X c s->XOK W T s ws F->H ⟨c,ws⟩ T)->we G cv e L W r H
def DOKs(es:List E):Prop:=∀ (j:DRho) (L:Rho) (f:String->List Jg) (t:PH) (Q:List (D×Tag)->Prop) (X:DX) (r:List PV->PH->Prop) (H:XPost),EnvE t j L f->dwes G (aR cv) es j Q X->
 (∀d v T s,Q d->Ext t T->ERs t f T d v s->r v T)->(∀c d ws T F,X c d->XOK t T d ws F->H ⟨c,ws⟩ T)->wes G cv es L t r H
end
noncomputable abbrev keysD(L:DRho):List String:=L.map (·.1)
noncomputable abbrev keysR(L:Rho):List String:=L.map (·.1)
theorem DRho.get_put_ne(h:y≠x):∀ (L:DRho),(L.put x v).get y=L.get y
 |[]=>rfl
 |(z,o)::r=>by
  by_cases T:z=x
  ·have:z≠y:=λq=>h<|q.symm.trans T;simp only[DRho.put_if,T,if_true,DRho.get_if];rw[Y9 (λq=>h q.symm),Y9 (λq=>h q.symm)]
  ·simp only[DRho.put_if,T,if_false,DRho.get_if,DRho.get_put_ne h r]
theorem DRho.get_put:∀ (L:DRho),x∈keysD L->(L.put x v).get x=Ja v
 |(z,o)::r,h=>by
  by_cases T:z=x
  ·simp only[DRho.put_if,T,if_true,DRho.get_if]
  ·simp only[DRho.put_if,T,if_false,DRho.get_if];exact DRho.get_put r<|by simpa [Ne.symm T] using h
theorem DRho.get_mem:∀ (L:DRho),L.get x=Ja v->x∈keysD L
 |(z,o)::r,h=>by
  by_cases T:z=x
  ·subst T;exact .head _
  ·simp only[DRho.get_if,T,if_false] at h;exact .tail _<|DRho.get_mem r h
theorem DRho.put_keys:∀ (L:DRho),keysD (L.put x v)=keysD L
 |[]=>rfl
 |(z,o)::r=>by
  by_cases h:z=x
  ·simp only[DRho.put_if,h,if_true,keysD,Qo]
  ·simp only[DRho.put_if,h,if_false,keysD,Qo];exact Ud _<|DRho.put_keys r
theorem Rho.gput_ne(h:y≠x):∀ (L:Rho),(L.put x v).get y=L.get y
 |[]=>rfl
 |(z,o)::r=>by
  by_cases T:z=x
  ·simp only[Rho.put_c,T,if_true,Rho.get_c];rw[Y9 (λq=>h q.symm),Y9 (λq=>h q.symm)]
  ·simp only[Rho.put_c,T,if_false,Rho.get_c,Rho.gput_ne h r]
theorem Rho.gput:∀ (L:Rho),x∈keysR L->(L.put x v).get x=Ja v
 |(z,o)::r,h=>by
  by_cases T:z=x
  ·simp only[Rho.put_c,T,if_true,Rho.get_c]
  ·simp only[Rho.put_c,T,if_false,Rho.get_c];exact Rho.gput r<|by simpa [Ne.symm T] using h
theorem Rho.put_keys:∀ (L:Rho),keysR (L.put x v)=keysR L
 |[]=>rfl
 |(z,o)::r=>by
  by_cases h:z=x
  ·simp only[Rho.put_c,h,if_true,keysR,Qo]
  ·simp only[Rho.put_c,h,if_false,keysR,Qo];exact Ud _<|Rho.put_keys r
theorem EnvE.put{L:DRho}{A:Rho}{f:String->List Jg}(h:EnvE σ L A f){d:D}(r:RdF σ d v F):
  EnvE σ (L.put x (d,b)) (A.put x v) (fset f x F):=by
 refine⟨λy X c e=> ?_,λy a T=> ?_,(DRho.put_keys _).trans (h.keys.trans (Rho.put_keys _).symm)⟩
 rotate_left
 ·by_cases W:y=x
  ·subst W;rw[c9] at T;exact r.dom a T
  ·rw[cr W] at T;exact h.dom y a T
 by_cases W:y=x
 ·subst W;rw[c9];have m:y∈keysD L:=by
   have:=DRho.get_mem _ e
   rwa [DRho.put_keys] at this
  rw[DRho.get_put _ m] at e;cases e;exact⟨v,Rho.gput _<|by rw[show keysR A=keysD L from h.keys.symm];exact m,r⟩
 ·rw[cr W];rw[DRho.get_put_ne W] at e;rw[Rho.gput_ne W];exact h.at_ y X c e
theorem EnvE.puts:∀ (xs:List String) (ds:List D) (vs:List PV) (F:List Jg) (Δ:DRho) (ρ:Rho) (fp:String->List Jg),EnvE σ Δ ρ fp->xs.length=ds.length->RdFs σ ds vs F->
  vs.length=xs.length/\∃fp',EnvE σ (Δ.puts xs ds b) (ρ.puts xs vs) fp'/\keysD (Δ.puts xs ds b)=keysD Δ/\∀y a,a∈fp' y->(y∈xs/\a∈F)\/(y∉xs/\a∈fp y):=by
 intro xs
 induction xs with
 |nil=>
  intro ds vs F Δ ρ fp h hl r
  induction ds using List.casesOn with
  |cons=>cases hl
  |nil=>
   obtain⟨rfl,rfl⟩:=r;exact⟨rfl,fp,h,rfl,λy a ha=> .inr ⟨Kx,ha⟩⟩
 |cons x xs ih=>
  intro ds vs F Δ ρ fp h hl rr0
  induction ds using List.casesOn with
  |nil=>cases hl
  |cons d ds=>
   obtain⟨p,ps,F1,F2,e1,e2,r1,r2⟩:=rr0;subst e1 e2;obtain⟨l1,fp',h1,h3,h4⟩:=ih ds ps F2 _ _ _ (h.put (b:=b) r1) (Nat.succ.inj hl) r2;refine⟨Ud (· +1) l1,fp',h1,h3.trans<|DRho.put_keys _,λy a ha=> ?_⟩
   rcases h4 y a ha with⟨q1,q2⟩|⟨q1,q2⟩
   ·exact .inl ⟨.tail _ q1,Qe _ q2⟩
   ·by_cases hy:y=x
    ·rw[hy,c9] at q2;exact .inl ⟨hy▸ .head _,Qk _ q2⟩
    ·rw[cr hy] at q2;exact .inr ⟨λm=>by cases m with|head=>exact hy rfl|tail _ m=>exact q1 m,q2⟩
theorem EnvE.bindT{tg:Tg}{d:D}{p:String->List Jg}(h:EnvE σ L A p)(r:RdF σ d v F)(e:eD tg d b L=Ja P):
  X2 λρ' f=>A4 (bindT tg v A=Ja ρ') (EnvE σ P ρ' f) (keysD P=keysD L) (∀y a,a∈f y->(y∈tg.names/\a∈F)\/(y∉tg.names/\a∈p y)):=by
 induction tg with
 |name x=>
  obtain rfl:=sj e;refine⟨_,_,rfl,h.put r,DRho.put_keys _,λy a T=> ?_⟩;by_cases W:y=x
  ·rw[W,c9] at T;exact .inl ⟨W▸ .head _,T⟩
  ·rw[cr W] at T;exact .inr ⟨λm=>W<|Qj.mp m,T⟩
 |tup s=>
  induction d using D.casesOn with
  |tup z=>
   obtain⟨l,rfl,H,r⟩:=r;by_cases q:z.length=s.length
   ·have g:Ja (L.puts s z b)=Ja P:=by rw[<-e];exact(Ua q).symm
    obtain rfl:=sj g;obtain⟨U,f,N,J,w⟩:=EnvE.puts (b:=b) s z l F L A p h q.symm r;exact⟨_,f,Ua U,N,J,w⟩
   ·have g:Jb=Ja P:=by rw[<-e];exact(Y9 q).symm
    exact ns g
  |_=>first|exact bnx e|exact onx e|cases e
theorem DRho.get_app:∀ (xs:List String) (Δ:DRho),DRho.get ((xs.map λx=>(x,Option.none))++Δ) y=Ja q->y∉xs/\Δ.get y=Ja q
 |[]=>λΔ e=>⟨Kx,e⟩
 |x::xs=>λΔ e=>by
  by_cases hx:x=y
  ·simp[DRho.get_if,hx] at e
  ·simp only[Qo,List.cons_append,DRho.get_if,hx,if_false] at e;obtain⟨h1,h2⟩:=DRho.get_app xs Δ e;exact⟨λm=>by cases m with|head=>exact hx rfl|tail _ m=>exact h1 m,h2⟩
theorem Rho.get_app:∀ (xs:List String) (L:Rho),y∉xs->Rho.get ((xs.map λx=>(x,Option.none))++L) y=L.get y
 |[]=>λL e=>rfl
 |x::xs=>λL e=>by
  have hx:x≠y:=λq=>e<|q▸ .head _;simp only[Qo,List.cons_append,Rho.get_c,hx,if_false];exact Rho.get_app xs L λm=>e<|.tail _ m
theorem EnvE.bindC{tg:Tg}{d:D}{u:String->List Jg}(h:EnvE σ L A u)(r:RdF σ d v F)(e:bq tg d L=Ja P):
  X2 λρ' f=>A3 (bindC tg v A=Ja ρ') (EnvE σ P ρ' f) (∀y a,a∈f y->(y∈tg.names/\a∈F)\/(y∉tg.names/\a∈u y)):=by
 have k:keysD (hM tg L)=keysR (blank tg A):=by
  simp only[keysD,keysR,hM,blank,Qo,QD,QE];rw[show Ky (λx=>x.fst) L=Ky (λx=>x.fst) A from h.keys];rfl
 have i:EnvE σ (hM tg L) (blank tg A) u:=by
  refine⟨λy d b e=> ?_,h.dom,k⟩;by_cases W:".0"=y
  ·simp[hM,DRho.get_if,W] at e
  ·simp only[hM,DRho.get_if,W,if_false] at e;obtain⟨N,p⟩:=DRho.get_app _ _ e;obtain⟨v,J,w⟩:=h.at_ y d b p;refine⟨v,?_,w⟩;simp only[blank,Rho.get_c,W,if_false];rw[Rho.get_app _ _ N];exact J
 obtain⟨ρ',f,N,p,o0,w⟩:=i.bindT r e;exact⟨ρ',f,N,p,w⟩
mutual
theorem RdF.py:∀ {d:D} {n:Nat} {v:PV} {F:List Jg},RdF σ d v F->d.okd n=Jc->Rd σ d.py v/\d.py.canLay0=Jc/\d.py.depth<=n
 | .none,_,_,_,r,_=>⟨r.1,rfl,QT _⟩
 | .bool _,_,_,_,r,_=>⟨r.1,rfl,QT _⟩
 | .int _,_,_,_,r,_=>⟨r.1,rfl,QT _⟩
 | .str _,n,_,_,r,h=>⟨⟨_,r.1,rfl⟩,by rcases n with⟨⟩<;>exact h,QT _⟩
 | .tup l,n,_,_,r,h=>by
  induction n using Nat.casesOn with
  |zero=>exact bnx h
  |succ n=>
   obtain⟨vs,N,o0,Y⟩:=r;obtain⟨P,U,k⟩:=RdFs.py Y (show D.okds n l=Jc from h);exact⟨⟨vs,N,P⟩,U,Kw k⟩
 | .list l,n,_,_,r,h=>by
  induction n using Nat.casesOn with
  |zero=>exact bnx h
  |succ n=>
   obtain⟨a,vs,o0,N,Y,o0,o0,J⟩:=r;obtain⟨P,U,k⟩:=RdFs.py J (show D.okds n l=Jc from h);exact⟨⟨a,vs,N,Y,P⟩,U,Kw k⟩
 | .scr _,n,_,_,_,h=>by rcases n with⟨⟩<;>exact bnx h
 | .hole,n,_,_,_,h=>by rcases n with⟨⟩<;>exact bnx h
 | .inst _ _,n,_,_,_,h=>by rcases n with⟨⟩<;>exact bnx h
 | .dict _ _,n,_,_,_,h=>by rcases n with⟨⟩<;>exact bnx h
theorem RdFs.py:∀ {ds:List D} {n:Nat} {l:List PV} {F:List Jg},RdFs σ ds l F->D.okds n ds=Jc->Rds σ (D.pys ds) l/\PyData.canLayAll0 (D.pys ds)=Jc/\PyData.depthAll (D.pys ds)<=n
 |[],_,_,_,r,_=>⟨r.1,rfl,QT _⟩
 |d::ds,n,_,_,r,h=>by
  obtain⟨p,ps,o0,o0,N,o0,Y,J⟩:=r;obtain⟨e,e2⟩:=Qg.mp (show(D.okd n d&&D.okds n ds)=Jc from h);obtain⟨P,U,k⟩:=RdF.py Y e;obtain⟨m,M,q⟩:=RdFs.py J e2;exact⟨⟨p,ps,N,P,m⟩,Qg.mpr ⟨U,M⟩,Nat.max_le.mpr ⟨k,q⟩⟩
end
theorem Az{d:D}(r:RdF σ d v F)(h:kaD d=Ja k):kaOf v=Ja k:=by
 induction d using D.casesOn with
 |int i=>rw[r.1];exact h
 |str i=>rw[r.1];exact h
 |_=>first|exact bnx h|exact onx h|cases h
theorem sE:∀ {ds:List D} {l:List PV} {F:List Jg} {k:List KA},RdFs σ ds l F->kasD ds=Ja k->kasOf l=Ja k
 |[],_,_,_,r,h=>by rw[r.1];exact h
 |d::ds,_,_,k,r,h=>by
  obtain⟨p,s,o0,o0,N,o0,Y,J⟩:=r;obtain⟨a,e,h⟩:=Qq.mp (show((kaD d).bind λk=>(kasD ds).map (k:: ·))=Ja k from h);obtain⟨b,w,rfl⟩:=Qt.mp h;rw[N];show((kaOf p).bind λk=>(kasOf s).map (k:: ·))=_;rw[Az Y e,sE J w];rfl
theorem nb{d:D}(r:RdF σ d v F)(h:keyD d=Ja k):keyOf v=Ja k:=by
 induction d using D.casesOn with
 |tup l=>obtain⟨m,rfl,o0,r⟩:=r;exact sE r h
 |_=>first|exact bnx h|exact onx h|cases h
theorem sA{d:D}{K K':List KA->Prop}(r:RdF σ d v F)(h:oK K (keyD d))(k:∀x,K x->K' x):oK K' (keyOf v):=by
 obtain⟨x,e,h⟩:=iQ h;rw[nb r e];exact k x h
theorem t1:∀k:List KA,RdFs σ (k.map KA.d) (k.map KA.pv) []
 |[]=>⟨rfl,rfl⟩
 |a::k=>⟨_,_,[],[],rfl,rfl,by rcases a with⟨⟩<;>exact⟨rfl,rfl⟩,t1 k⟩
section
variable{σ σ1 σ2 σ':PH}{fp:String->List Jg}{Δ:DRho}{ρ:Rho}
theorem PartOK.apart(f:∀x,∀a∈fp x,∃l:MO,σ a=Ja l.1)(M:Ext σ σ1)(pa:PartOK σ fp k F)(d:∀a∈F,∃l:MO,σ1 a=Ja l.1)(pb:PartOK σ1 fp t b)(h:k=Jb\/t=Jb):Disj F b:=λa T R=>by
 obtain⟨l,e⟩:=d a T
 induction t with
 |none=>have:=(pb.own rfl).2 a R;exact sn<|e.symm.trans this
 |some s=>
  have n:=(pa.own<|h.resolve_right λq=>by exact sn q).2 a T
  rcases pb.al s rfl a R with q|⟨x,o0,q⟩
  ·exact sn<|e.symm.trans q
  ·obtain⟨K,g⟩:=f x a q;exact ns<|n.symm.trans g
theorem dJ{t:Tag}{ds:List D}{l:List PV}{F:List Jg}{Q:DQ}{Q':Post}(x:Ext σ σ')(r:RdFs σ' ds l F)(H:l.length<=lim)(p:PartOK σ fp t F)(q:Q (.list ds) t)
  (k:∀d t v σ' F,Q d t->ER σ fp σ' d t v F->Q' v σ'):wnew (.list l) σ' Q':=λa T=>by
 refine k _ _ _ _ (a::F) q ⟨⟨a,l,F,rfl,PH.set_same _ _ _,H,rfl,r.ext<|Ext.set T _⟩,x.trans<|Ext.set T _,p.cons (x.new T) λh=> ?_⟩;obtain⟨K,e⟩:=r.dom a h;exact ns<|T.symm.trans e
theorem RdFs.app{d e:List D}:∀ {l:List PV} {F:List Jg},RdFs σ d l F->RdFs σ e m G->RdFs σ (d++e) (l++m) (F++G):=by
 induction d with
 |nil=>intro l F h k;obtain⟨rfl,rfl⟩:=h;exact k
 |cons d f i=>
  intro l F h k;obtain⟨p,s,j,q,N,Y,J,w⟩:=h;subst N Y;exact⟨p,s++m,j,q++G,rfl,Kr _ _ _,J,i w k⟩
theorem RdFs.len{d:List D}:∀ {l:List PV} {F:List Jg},RdFs σ d l F->l.length=d.length:=by
 induction d with
 |nil=>intro l F h;rw[h.1];rfl
 |cons d f i=>intro l F h;obtain⟨p,s,j,q,N,Y,J,w⟩:=h;rw[N];exact Ud (· +1)<|i w
theorem wa(xs:List String)(t:Tag):∃ys,tj (Ja xs) t=Ja ys/\∀zs,t=Ja zs->∀z∈zs,z∈ys:=by
 induction t with
 |none=>exact⟨xs,rfl,λzs e=>ns e⟩
 |some y=>exact⟨xs++y,rfl,λzs e z h=>by obtain rfl:=sj e;exact Qe _ h⟩
theorem wD(x:Ext σ σ')(r:RdF σ' a A O)(e:RdF σ' b Z I)(pa:PartOK σ fp R O)(pb:PartOK σ fp B I)
  (J:R=Jb->B=Jb->Disj O I)(h:dadd a b R B Q)(k:∀d t v σ' F,Q d t->ER σ fp σ' d t v F->Q' v σ'):wadd A Z σ' Q':=by
 induction a using D.casesOn with
 |int i=>
  obtain⟨j,rfl,h⟩:=ew h;obtain⟨rfl,rfl⟩:=r;obtain⟨rfl,rfl⟩:=e;exact k _ _ _ _ _ h<|.at0 x ⟨rfl,rfl⟩
 |list l=>
  obtain⟨m,rfl,h⟩:=gz h;obtain⟨p,K,F,rfl,T,H,rfl,r⟩:=r;obtain⟨q,N,G,rfl,w,L,rfl,e⟩:=e;have z:(K++N).length<=lim:=by rw[(r.app e).len];exact h.1
  show onL σ' (λl=>onL σ' (λm=>wlist (l++m) σ' Q')<|.ref q) (.ref p);rw[hP T,hP w];exact⟨z,dJ x (r.app e) z (((pa.sub<|Ku _ _).join (pb.sub<|Ku _ _) λT w c C W=>J T w c (.tail _ C)<|.tail _ W).tgl (r.app e)) h.2 k⟩
 |_=>exact h.elim
theorem ww(x:Ext σ σ')(r:RdF σ' a A O)(J:RdF σ' b q I)(pa:PartOK σ fp B O)(pb:PartOK σ fp l I)
  (P:B=Jb->l=Jb->Disj O I)(h:dbin o a b B l Q)(k:∀d t v σ' F,Q d t->ER σ fp σ' d t v F->Q' v σ'):wbin o A q σ' Q':=by
 have two:∀ {K:Int->Int->Prop} {W:Int->Int->Prop},dInt (λx=>dInt (λy=>K x y) b) a->(∀x y,K x y->W x y)->onInt (λx=>onInt (λy=>W x y) q) A:=λw k=>by
  obtain⟨i,e,w⟩:=ew w;obtain⟨j,g,w⟩:=ew w;subst e g;obtain⟨rfl,o0⟩:=r;obtain⟨rfl,o0⟩:=J;exact k i j w
 induction o with
 |add=>exact wD x r J pa pb P h k
 |mul=>exact two h λi j h=>⟨h.1,k _ _ _ _ _ h.2<|.at0 x ⟨rfl,rfl⟩⟩
 |sub=>exact two h λi j h=>k _ _ _ _ _ h<|.at0 x ⟨rfl,rfl⟩
 |fdiv=>exact two h λi j h=>⟨h.1,h.2.1,k _ _ _ _ _ h.2.2<|.at0 x ⟨rfl,rfl⟩⟩
 |mod=>exact two h λi j h=>⟨h.1,k _ _ _ _ _ h.2<|.at0 x ⟨rfl,rfl⟩⟩
 |pow=>exact two h λi j h=>⟨h.1,h.2.1,h.2.2.1,k _ _ _ _ _ h.2.2.2<|.at0 x ⟨rfl,rfl⟩⟩
theorem kS{d:D}(r:RdF σ d v F)(h:d.okd n=Jc)(o:n<=50):Rd σ d.py v/\okD d.py:=by
 obtain⟨N,p,J⟩:=r.py h;exact⟨N,p,Qn J o⟩
theorem mW:∀l:List D,D.pys l=l.map D.py
 |[]=>rfl
 |d::s=>Ud _<|mW s
theorem rq:∀ {vs:List PV} {F:List Jg} {n:Nat},RdFs σ l vs F->D.okds n l=Jc->n<=50->∀d∈D.pys l,okD d:=by
 induction l with
 |nil=>intro vs F n _ _ _ e O;cases O
 |cons d s i=>
  intro vs F n r h o e O;obtain⟨p,I,j,N,E,Y,J,w⟩:=r;obtain⟨P,k⟩:=Qg.mp (show(D.okd n d&&D.okds n s)=Jc from h);cases O with
  |head=>exact(kS J P o).2
  |tail _ O=>exact i w k o e O
theorem uY{Q:Bool->Prop}{Q':Bool->PH->Prop}(C:RdF σ a v O)(l:RdF σ b q F)(h:deq a b Q)(k:∀r,Q r->Q' r σ):weq v q σ Q':=by
 obtain⟨N,p⟩:=kS C h.1.1 (by decide);obtain⟨J,w⟩:=kS l h.1.2 (by decide);exact⟨_,_,N,J,p,w,k _ h.2⟩
theorem rc{Q:Bool->Prop}{Q':Bool->PH->Prop}(C:RdF σ a v F)(e:RdF σ b B I)(h:din a b Q)(k:∀r,Q r->Q' r σ):win v B σ Q':=by
 induction b using D.casesOn with
 |list l=>
  obtain⟨p,m,G,rfl,T,H,rfl,e⟩:=e;obtain⟨N,Y⟩:=kS C h.1.1 (by decide);refine .inr ?_;rw[hP T];refine⟨_,_,N,(e.py h.1.2).1,Y,rq e h.1.2<|by decide,k _ ?_⟩;rw[mW,List.any_map];exact h.2
 |dict s l=>
  obtain⟨p,m,G,rfl,T,H,rfl,e⟩:=e;refine .inl ?_;show onDO _ (σ p);rw[T];exact sA C h λx q=>k _ q
 |_=>exact h.elim
theorem ko{f:Int->Int->Bool}{Q:Bool->Prop}{Q':Bool->PH->Prop}(C:RdF σ a v F)(l:RdF σ b q I)(h:drel f a b Q)(k:∀r,Q r->Q' r σ):wrel f v q σ Q':=by
 obtain⟨i,e,h⟩:=ew (show dInt (λx=>dInt (λy=>Q<|f x y) b) a from h);obtain⟨j,g,h⟩:=ew h;subst e g;obtain⟨rfl,o0⟩:=C;obtain⟨rfl,o0⟩:=l;exact k _ h
theorem ny{Q:Bool->Prop}{Q':Bool->PH->Prop}(C:RdF σ a v O)(l:RdF σ b m F)(h:dcmp o a b Q)(k:∀r,Q r->Q' r σ):wcmp o v m σ Q':=by
 induction o with
 |eq=>exact uY C l h k
 |ne=>exact uY (Q:=λr=>Q (!r)) (Q':=λr σ=>Q' (!r) σ) C l h λr q=>k _ q
 |in_=>exact rc C l h k
 |nin=>exact rc (Q:=λr=>Q (!r)) (Q':=λr σ=>Q' (!r) σ) C l h λr q=>k _ q
 |lt=>exact ko C l h k
 |le=>exact ko C l h k
 |gt=>exact ko C l h k
 |ge=>exact ko C l h k
end
section
variable{σ σ1 σ2 σ':PH}{fp:String->List Jg}{Δ:DRho}{ρ:Rho}
theorem vv{d:D}(r:RdF σ d v F)(h:dlen d=Ja n):plen σ v=Ja n/\n<=lim:=by
 induction d using D.casesOn with
 |list l=>
  obtain⟨a,m,G,rfl,e,T,rfl,r⟩:=r;obtain rfl:=sj h;refine⟨?_,r.len▸T⟩;show(match σ a with
   |some (.list l)=>Ja l.length
   |_=>Jb)=_
  rw[e];exact Ud Ja r.len
 |tup l=>
  obtain⟨m,rfl,T,r⟩:=r;obtain rfl:=sj h;exact⟨Ud Ja r.len,r.len▸T⟩
 |scr l=>
  obtain⟨⟨rfl,T⟩,o0⟩:=r;obtain rfl:=sj h;exact⟨rfl,T⟩
 |_=>first|exact bnx h|exact onx h|cases h
theorem kg:∀ {l:List D} {vs:List PV} {F:List Jg} {is:List Int},RdFs σ l vs F->dInts l=Ja is->dQ vs=Ja is
 |[],vs,F,is,r,h=>by rw[r.1];exact h
 |d::s,vs,F,is,N,h=>by
  obtain⟨p,I,Q,q,E,Y,J,w⟩:=N
  induction d using D.casesOn with
  |int i=>
   obtain⟨j,e,rfl⟩:=Qt.mp (show(dInts s).map (i:: ·)=Ja is from h);rw[E,J.1];exact Qt.mpr ⟨j,kg w e,rfl⟩
  |_=>first|exact bnx h|exact onx h|cases h
theorem oq:∀ {l:List D} {vs:List PV} {F:List Jg} {is:List Bool},RdFs σ l vs F->iY l=Ja is->fF vs=Ja is
 |[],vs,F,is,r,h=>by rw[r.1];exact h
 |d::s,vs,F,is,N,h=>by
  obtain⟨p,I,Q,q,E,Y,J,w⟩:=N
  induction d using D.casesOn with
  |bool i=>
   obtain⟨j,e,rfl⟩:=Qt.mp (show(iY s).map (i:: ·)=Ja is from h);rw[E,J.1];exact Qt.mpr ⟨j,oq w e,rfl⟩
  |_=>first|exact bnx h|exact onx h|cases h
theorem ERs.one{d:D}(h:ERs σ fp σ' ds vs s)(e:ds=[(d,t)]):X2 λv F=>A3 (vs=[v]) (RdF σ' d v F) (PartOK σ fp t F):=by
 cases h with
 |nil=>cases e
 |cons r p q h=>
  cases e;cases h;exact⟨_,_,rfl,r,p⟩
theorem mZ{d:D}{K:List D->Prop}{K':List PV->Prop}(r:RdF σ d v F)(h:dLst K d)(k:∀l vs G,K l->RdFs σ l vs G->vs.length<=lim->(G.Sublist F)->K' vs):onL σ K' v:=by
 obtain⟨l,rfl,h⟩:=gz h;obtain⟨a,m,G,rfl,e,T,rfl,r⟩:=r;rw[hP e];exact k _ _ _ h r T<|Ku _ _
theorem nA{K K':List Int->Prop}(h:oIs K o)(e:∀is,o=Ja is->o'=Ja is)(k:∀is,K is->K' is):oIs K' o':=by
 obtain⟨is,N,p⟩:=kl h;rw[e is N];exact k is p
theorem rh:∀ks:List (List KA),(∀k∈ks,k.length<=lim)->RdFs σ (ks.map keyDd) (ks.map keyPV) []
 |[]=>λo0=>⟨rfl,rfl⟩
 |k::ks=>λh=>⟨_,_,[],[],rfl,rfl,⟨_,rfl,(by rw[Qd];exact h k (.head _)),t1 k⟩,rh ks λx hx=>h x (.tail _ hx)⟩
theorem rj:∀is:List Int,RdFs σ (is.map D.int) (is.map PV.int) []
 |[]=>⟨rfl,rfl⟩
 |i::is=>⟨_,_,[],[],rfl,rfl,⟨rfl,rfl⟩,rj is⟩
theorem yi(x:Ext σ σ')(r:ERs σ fp σ' ds vs Fs)(h:dbi b ds Q)
  (k:∀d t v σ' F,Q d t->ER σ fp σ' d t v F->Q' v σ'):wbi b vs σ' Q':=by
 have at1:∀ {K:D->Tag->Prop} {K':PV->Prop},d1 K ds->(∀d t v F,K d t->RdF σ' d v F->PartOK σ fp t F->K' v)->on1 K' vs:=λw k=>by
  obtain⟨d,t,e,w⟩:=zJ w;obtain⟨v,F,rfl,rv,p⟩:=r.one e;exact k d t v F w rv p
 induction b with
 |len=>
  exact at1 h λd t v F w rv p=>by
   obtain⟨n,e,w⟩:=gA w;obtain⟨h1,h2⟩:=vv rv e;rw[h1];exact⟨h2,k _ _ _ _ _ w<|.at0 x ⟨rfl,rfl⟩⟩
 |all=>
  exact at1 h λd t v F w rv p=>mZ rv w λl vs G w r o0 o0=>by
   obtain⟨bs,e,w⟩:=qB w;rw[oq r e];exact k _ _ _ _ _ w<|.at0 x ⟨rfl,rfl⟩
 |sum=>
  exact at1 h λd t v F w rv p=>mZ rv w λl vs G w r o0 o0=>nA w (λis e=>kg r e) λis w=>k _ _ _ _ _ w<|.at0 x ⟨rfl,rfl⟩
 |int=>
  exact at1 h λd t v F w rv p=>by
   obtain⟨i,rfl,w⟩:=eI w;rw[rv.1];exact k _ _ _ _ _ w<|.at0 x ⟨rfl,rfl⟩
 |list=>
  exact at1 h λd t v F w rv p=>by
   induction d using D.casesOn with
   |tup l=>obtain⟨m,rfl,hl,r⟩:=rv;exact .inr ⟨hl,dJ x r hl (p.tgl r) w k⟩
   |list l=>
    obtain⟨a,m,G,rfl,e,hl,rfl,r⟩:=rv;refine .inr ?_;show onO _ (σ' a);rw[e];exact⟨hl,dJ x r hl ((p.sub<|Ku _ _).tgl r) w k⟩
   |dict ks l=>
    obtain⟨a,m,G,rfl,e,hl,rfl,r⟩:=rv;refine .inl ?_;show onDO _ (σ' a);rw[e];have hk:(ks.map keyPV).length<=lim:=by rw[Qd];exact w.1.1
    exact⟨hk,dJ x (rh ks w.1.2) hk .nil w.2 k⟩
   |_=>exact w.elim
 |min=>
  exact at1 h λd t v F w rv p=>mZ rv w λl vs G w r o0 o0=>nA w (λis e=>kg r e) λis w=>⟨w.1,k _ _ _ _ _ w.2<|.at0 x ⟨rfl,rfl⟩⟩
 |sorted=>
  exact at1 h λd t v F w rv p=>mZ rv w λl vs G w r o0 o0=>nA w (λis e=>kg r e) λis w=>⟨w.1,λjs hp hs=>by
   have hl:(js.map PV.int).length<=lim:=by
    rw[Qd,hp.length_eq];exact Qn (Kv w.1)<|by decide
   exact⟨hl,dJ x (rj js) hl .nil (w.2 js hp hs) k⟩⟩
 |dict=>
  exact at1 h λd t v F w rv p=>by
   induction d using D.casesOn with
   |dict ks l=>
    obtain⟨a,m,G,rfl,e,hl,rfl,r⟩:=rv;show onDO _ (σ' a);rw[e];refine⟨⟨w.1.1,by rw[hl.2];exact hl.1,w.1.2.1⟩,λb hb=> ?_⟩;have hG:G=[]:=r.atom w.1.2.2;subst hG;refine k _ _ _ _ [b] w.2 ⟨⟨b,m,[],rfl,PH.set_same _ _ _,hl,rfl,r.ext<|Ext.set hb _⟩,x.trans<|Ext.set hb _,PartOK.nil.cons (x.new hb) λq=>(bQ q)⟩
   |_=>exact w.elim
end
section
variable{σ σ1 σ2 σ':PH}{fp:String->List Jg}{Δ:DRho}{ρ:Rho}
theorem zS{d:D}(r:RdF σ d v F)(h:disi G d t=Ja b):isiV G σ v t=Ja b:=by
 have key:disi G d t=Ja b->isiV G σ v t=Ja b:=λh=>by
  induction d using D.casesOn with
  |none=>rw[r.1];exact h
  |bool=>rw[r.1];exact h
  |int=>rw[r.1];exact h
  |str=>rw[r.1];exact h
  |scr=>exact ns h
  |hole=>exact ns h
  |tup l=>obtain⟨m,rfl,o0⟩:=r;exact h
  |list l=>
   obtain⟨a,m,o0,rfl,e,o0⟩:=r;show isiO G t (σ a)=_;rw[e];exact h
  |dict k l=>exact ns h
  |inst c l=>exact ns h
 exact key h
theorem RdFs.get:∀ {l:List PV} {F:List Jg},RdFs σ ds l F->∀ (j:Nat) (d:D),ds[j]? =Ja d->X2 λp G=>A3 (l[j]? =Ja p) (RdF σ d p G) (G.Sublist F):=by
 induction ds with
 |nil=>intro l F _ j d O;exact ns O
 |cons d ds i=>
  intro l F h j e O;obtain⟨p,s,Q,t,N,Y,J,w⟩:=h;subst N Y
  induction j using Nat.casesOn with
  |zero=>obtain rfl:=sj O;exact⟨p,Q,rfl,J,List.sublist_append_left _ _⟩
  |succ j=>
   obtain⟨q,G,P,U,k⟩:=i w j e O;exact⟨q,G,P,U,k.trans<|List.sublist_append_right _ _⟩
theorem RdFs.take{ds:List D}:∀ {l:List PV} {F:List Jg},RdFs σ ds l F->∀ (j:Nat),∃G,RdFs σ (ds.take j) (l.take j) G/\G.Sublist F:=by
 induction ds with
 |nil=>intro l F h j;obtain⟨rfl,rfl⟩:=h;rw[List.take_nil,List.take_nil];exact⟨[],⟨rfl,rfl⟩,List.nil_sublist _⟩
 |cons d ds i=>
  intro l F h j
  induction j using Nat.casesOn with
  |zero=>exact⟨[],⟨rfl,rfl⟩,List.nil_sublist _⟩
  |succ j=>
   obtain⟨p,s,Q,q,N,Y,J,w⟩:=h;subst N Y;obtain⟨G,k,U⟩:=i w j;exact⟨Q++G,⟨p,s.take j,Q,G,rfl,rfl,J,k⟩,List.Sublist.append (List.Sublist.refl _) U⟩
theorem RdFs.drop{ds:List D}:∀ {l:List PV} {F:List Jg},RdFs σ ds l F->∀ (j:Nat),∃G,RdFs σ (ds.drop j) (l.drop j) G/\G.Sublist F:=by
 induction ds with
 |nil=>intro l F h j;obtain⟨rfl,rfl⟩:=h;rw[List.drop_nil,List.drop_nil];exact⟨[],⟨rfl,rfl⟩,List.nil_sublist _⟩
 |cons d ds i=>
  intro l F h j
  induction j using Nat.casesOn with
  |zero=>exact⟨F,h,List.Sublist.refl _⟩
  |succ j=>
   obtain⟨p,s,Q,q,N,Y,J,w⟩:=h;subst N Y;obtain⟨G,k,U⟩:=i w j;exact⟨G,k,U.trans<|List.sublist_append_right _ _⟩
abbrev wsub(σ:PH)(v i:PV)(Q:PV->Prop):Prop:=onD σ (λs l=>oK (λk=>oV Q (klook s l k)) (keyOf i)) v\/oNat (λk=>k<=lim/\oV Q (psub σ v i)) (plen σ v)
theorem ib(e:plen σ v=Ja n)(e2:n<=lim)(X:psub σ v i=Ja p)(Q:PV->Prop)(q:Q p):wsub σ v i Q:=by
 refine .inr ?_;rw[e,X];exact⟨e2,q⟩
theorem RdFs.look(h:RdFs σ ds l F){d:D}(e:dlook ks ds k=Ja d):X3 λj p G=>A6 (kidx ks k=Ja j) (ds[j]? =Ja d) (l[j]? =Ja p) (klook ks l k=Ja p) (RdF σ d p G) (G.Sublist F):=by
 obtain⟨j,N,Y⟩:=Qq.mp e;obtain⟨p,G,g,c,H⟩:=h.get j d Y;exact⟨j,p,G,N,Y,g,Qq.mpr ⟨j,N,g⟩,c,H⟩
theorem n9(e:σ a=Ja (.dict ks l))(T:keyOf v=Ja k)(e2:klook ks l k=Ja p)(Q:PV->Prop)(q:Q p):wsub σ (.ref a) v Q:=by
 refine .inl ?_;show onDO _ (σ a);rw[e];show oK _ (keyOf v);rw[T];show oV Q (klook ks l k);rw[e2];exact q
inductive SubS(σ:PH)(va vi:PV)(x:D)(Fa:List Jg):Prop
 |mk (p:PV) (G:List Jg) (e:∀Q:PV->Prop,Q p->wsub σ va vi Q) (r:RdF σ x p G) (s:G.Sublist Fa):SubS σ va vi x Fa
theorem zK(C:RdF σ a A F)(V:RdF σ i J I)(h:dsub a i=Ja x):SubS σ A J x F:=by
 induction a using D.casesOn with
 |list l=>
  induction i using D.casesOn with
  |int n=>
   obtain⟨rfl,o0⟩:=V;obtain⟨a,m,G,rfl,e,T,rfl,r⟩:=C;obtain⟨j,N,Y⟩:=Qq.mp (show((place l.length n).bind λj=>l[j]?)=Ja x from h);obtain⟨p,b,v,g,H⟩:=r.get j x Y;refine⟨p,b,ib (n:=m.length) ?_ T ?_,g,H.trans<|Ku _ _⟩
   ·show(match σ a with
     |some (.list l)=>Ja l.length
     |_=>Jb)=_
    rw[e]
   ·show psubO (.int n) (σ a)=_;rw[e];show((place m.length n).bind λj=>m[j]?)=Ja p;rw[r.len,N];exact v
  |_=>first|exact bnx h|exact onx h|cases h
 |tup l=>
  induction i using D.casesOn with
  |int n=>
   obtain⟨rfl,o0⟩:=V;obtain⟨m,rfl,T,r⟩:=C;obtain⟨j,N,Y⟩:=Qq.mp (show((place l.length n).bind λj=>l[j]?)=Ja x from h);obtain⟨p,b,v,g,H⟩:=r.get j x Y;refine⟨p,b,ib (n:=m.length) rfl T ?_,g,H⟩;show((place m.length n).bind λj=>m[j]?)=Ja p;rw[r.len,N];exact v
  |_=>first|exact bnx h|exact onx h|cases h
 |scr l=>
  induction i using D.casesOn with
  |int n=>
   obtain⟨rfl,o0⟩:=V;obtain⟨⟨rfl,T⟩,rfl⟩:=C;obtain⟨y,N,rfl⟩:=Qt.mp (show((place l.length n).bind λj=>l[j]?).map D.int=Ja x from h);exact⟨.int y,[],ib (n:=l.length) rfl T<|Qt.mpr ⟨y,N,rfl⟩,⟨rfl,rfl⟩,List.Sublist.refl _⟩
  |_=>first|exact bnx h|exact onx h|cases h
 |dict s l=>
  obtain⟨k,N,Y⟩:=Qq.mp (show((keyD i).bind λk=>dlook s l k)=Ja x from h);obtain⟨a,m,G,rfl,e,T,rfl,r⟩:=C;obtain⟨j,p,b,o0,o0,o0,v,g,H⟩:=r.look Y;exact⟨p,b,n9 e (nb V N) v,g,H.trans<|Ku _ _⟩
 |_=>first|exact bnx h|exact onx h|cases h
theorem pg{f:List D->List D}{f':List PV->List PV}{d:D}(w:∀ {ds:List D} {l:List PV} {F:List Jg},RdFs σ' ds l F->(f' l).length<=l.length/\∃G,RdFs σ' (f ds) (f' l) G/\G.Sublist F)
  (x:Ext σ σ')(r:RdF σ' d v F)(p:PartOK σ fp t F){ok:Nat->Prop}(h:pZ f ok t Q d)(k:∀d t v σ' F,Q d t->ER σ fp σ' d t v F->Q' v σ'):pP f' ok v σ' Q':=by
 induction d using D.casesOn with
 |list l=>
  obtain⟨a,m,i,rfl,e,T,rfl,r⟩:=r;obtain⟨b,G,g,c⟩:=w r;show onO (λl=>Okl l/\wnew (.list<|f' l) σ' Q') (σ' a);rw[e];exact⟨T,dJ x g (Qn b T) ((p.sub<|c.trans (Ku _ _)).tgl g) h k⟩
 |_=>exact h.elim
theorem v6(k:Int){ds:List D}{l:List PV}(r:RdFs σ ds l F):(l.take (cut l.length k)).length<=l.length/\∃G,RdFs σ (ds.take (cut ds.length k)) (l.take (cut l.length k)) G/\G.Sublist F:=by
 refine⟨by simp;exact WK _ _,?_⟩;rw[r.len];exact r.take _
theorem wj(k:Int){ds:List D}{l:List PV}(r:RdFs σ ds l F):(l.drop (cut l.length k)).length<=l.length/\∃G,RdFs σ (ds.drop (cut ds.length k)) (l.drop (cut l.length k)) G/\G.Sublist F:=by
 refine⟨by simp,?_⟩;rw[r.len];exact r.drop _
theorem tR(n:Nat):RdFs σ ((Qc n).map λ(i:Nat)=>D.int i) ((Qc n).map λ(i:Nat)=>PV.int i) []:=by
 generalize Qc n=l
 induction l with
 |nil=>exact⟨rfl,rfl⟩
 |cons i r h=>exact⟨_,_,[],[],rfl,rfl,⟨rfl,rfl⟩,h⟩
theorem RdFs.one1{d:D}(r:RdFs σ [d] vs F):∃v,vs=[v]/\RdF σ d v F:=by
 obtain⟨p,s,j,N,e,w,f,X,u⟩:=r;exact⟨p,by rw[e,X],by rw[w,u,QH];exact f⟩
theorem RdFs.two2{d d':D}(r:RdFs σ [d,d'] vs F):X4 λv w j N=>A4 (vs=[v,w]) (F=j++N) (RdF σ d v j) (RdF σ d' w N):=by
 obtain⟨p,s,j,N,e,m,f,M⟩:=r;obtain⟨w,X,y⟩:=M.one1;exact⟨p,w,j,N,by rw[e,X],m,f,y⟩
abbrev SrcC(σ':PH)(FF:List Jg)(K:List D->Prop)(K':List PV->(PH->Prop)->Prop):Prop:=∀x l c G,K x->RdFs σ' x l G->l.length<=lim->(∀a∈G,a∈FF)->(∀j,(∀a∈FF,j a=σ' a)->c j)->K' l c
theorem Aa{d:D}{FF:List Jg}{K:List D->Prop}{K':List PV->(PH->Prop)->Prop}(f:RdF σ' d v FF)(h:dSeq K d)(c:SrcC σ' FF K K'):src .val [v] σ' K':=by
 induction d using D.casesOn with
 |tup l=>
  obtain⟨m,u,T,r⟩:=f;rw[u];exact c l m _ _ h r T (λa H=>H) λo0 o0=>trivial
 |list l=>
  obtain⟨a,m,G,u,e,T,p,r⟩:=f;rw[u];show onL σ' (λl=>K' l λσ'=>σ' a=Ja (.list l)) (.ref a);rw[hP e];exact c l m _ G h r T (λb R=>by rw[p];exact .tail _ R) λj s=>(s a<|by rw[p];exact .head _).trans e
 |_=>exact h.elim
theorem qF:∀ {ds:List D} {l:List PV} {F:List Jg} (n:Nat),RdFs σ ds l F->RdFs σ (enumD n ds) (enumL n l) F/\(enumL n l).length=l.length
 |[],l,F,n,r=>by obtain⟨rfl,rfl⟩:=r;exact⟨⟨rfl,rfl⟩,rfl⟩
 |d::ds,l,F,n,r=>by
  obtain⟨p,s,j,N,rfl,rfl,f,M⟩:=r;obtain⟨y,e⟩:=qF (n+1) M;exact⟨⟨_,_,j,N,rfl,rfl,⟨_,rfl,WD rfl,_,_,[],j,rfl,rfl,⟨rfl,rfl⟩,_,_,j,[],rfl,(QH _).symm,f,rfl,rfl⟩,y⟩,Ud (· +1) e⟩
theorem yr{FF:List Jg}{K:List D->Prop}{K':List PV->(PH->Prop)->Prop}(r:RdFs σ' ds vs FF)(h:dsrc k ds K)(c:SrcC σ' FF K K'):src k vs σ' K':=by
 induction k with
 |val=>
  obtain⟨d,rfl,i⟩:=m9 h;obtain⟨v,e,f⟩:=r.one1;rw[e];exact Aa f i c
 |range=>
  obtain⟨d,rfl,i⟩:=m9 h;obtain⟨n,rfl,N,p⟩:=ew i;obtain⟨v,e,f⟩:=r.one1;rw[e,f.1];exact⟨N.1,c _ _ _ [] p (tR _) (by rw[Qd,QA];exact Int.toNat_le.mpr N.2) (λa H=>(bQ H)) λo0 o0=>trivial⟩
 |enum=>
  obtain⟨d,rfl,i⟩:=m9 h;obtain⟨v,e,f⟩:=r.one1;obtain⟨l,rfl,N⟩:=gz i;obtain⟨a,m,G,u,F,M,T,C⟩:=f;rw[e,u];show onL σ' (λl=>K' (enumL 0 l) λσ'=>onL σ' (λw=>w=l)<|.ref a) (.ref a);rw[hP F];obtain⟨y,X⟩:=qF 0 C;refine c _ _ _ G N y (by rw[X];exact M) (λb R=>by rw[T];exact .tail _ R) λj s=> ?_;have z:j a=Ja (.list m):=(s a<|by rw[T];exact .head _).trans F;show onL j (λw=>w=m) (.ref a);rw[hP z]
theorem pB{F:List (List Jg)}{K:List D->Prop}{K':List PV->(PH->Prop)->Prop}(r:ERs σ fp σ' ds vs F)(h:dsrc k (fsts ds) K)
  (c:∀xs l chk G,K xs->RdFs σ' xs l G->l.length<=lim->(∀a∈G,a∈F.flatten)->(∀j,(∀a∈F.flatten,j a=σ' a)->chk j)->K' l chk):src k vs σ' K':=yr r.rds h c
end
section
variable{σ σ1 σ2 σ':PH}{fp:String->List Jg}{Δ:DRho}{ρ:Rho}
theorem vW{ns:List String}{f:String->List Jg}(h:PartOK σ1 f u F)(x:Ext σ σ1)(E:PartOK σ fp t G)(w:∀y a,a∈f y->(y∈ns/\a∈G)\/(y∉ns/\a∈fp y)):PartOK σ fp (tout ns t u) F:=by
 induction u with
 |none=>exact⟨λo0=>⟨(h.own rfl).1,λa T=>x.new ((h.own rfl).2 a T)⟩,λs e=>nomatch e⟩
 |some s=>
  refine⟨λe=> ?_,λzs e a T=> ?_⟩
  ·exact sn (mI e).1
  obtain⟨m,M⟩:=ud (a:=Ja<|s.filter λx=> !ns.contains x) (b:=t) e
  rcases h.al s rfl a T with q|⟨y,W,q⟩
  ·exact .inl<|x.new q
  ·rcases w y a q with⟨o0,q⟩|⟨c,Z⟩
   ·exact(E.wide M).al zs rfl a q
   ·exact .inr ⟨y,m _ rfl y<|Qh.mpr ⟨W,by simpa using c⟩,Z⟩
theorem oo{E:Tag}{tst:DRho->(Bool->Prop)->Prop}{el:DRho->DQ->Prop}{s:Rho->PH->(Bool->PH->Prop)->Prop}{g:Rho->PH->Post->Prop}{chk:PH->Prop}
  (env:EnvE σ Δ ρ fp)(o:PartOK σ fp E L)
  (X:∀P ρ' f σ1 K K',EnvE σ1 P ρ' f->tst P K->(∀b σ2,K b->Ext σ1 σ2->K' b σ2)->s ρ' σ1 K')
  (B:∀P ρ' f σ1 K K',EnvE σ1 P ρ' f->el P K->(∀d t v σ2 F,K d t->ER σ1 f σ2 d t v F->K' v σ2)->g ρ' σ1 K'):
  ∀ (xs:List D) (vs:List PV) (Gx:List Jg) (m:List D) (c:List PV) (O:List Jg) (t:Tag) (σ1:PH) (K:List D->Tag->Prop) (K':List PV->PH->Prop),RdFs σ1 xs vs Gx->(∀a∈Gx,a∈L)->Ext σ σ1->(∀σ2,Ext σ1 σ2->chk σ2)->
   RdFs σ1 m c O->PartOK σ fp t O->c.length+vs.length<=lim->dcomp tg Δ E tst el xs m t K->
   (∀m t c σ2 O,K m t->Ext σ σ2->RdFs σ2 m c O->PartOK σ fp t O->c.length<=lim->K' c σ2)->gb chk tg ρ s g vs c σ1 K':=by
 intro xs
 induction xs with
 |nil=>
  intro vs Gx m c O t σ1 K K' r _ x Z C Y H h k;obtain⟨rfl,o0⟩:=r;exact⟨Z σ1<|.refl _,k _ _ _ _ _ h x C Y H⟩
 |cons d ds n=>
  intro vs Gx m c O t σ1 K K' R S x Z C Y H h k;obtain⟨p,I,F1,i,e1,w,r1,M⟩:=R;subst e1 w;refine⟨Z σ1<|.refl _,?_⟩;obtain⟨P,e,h⟩:=gS h;obtain⟨ρ',f,Q,A,b3⟩:=(env.ext x).bindC r1 e;rw[Q];refine X P ρ' f σ1 _ _ A h λb σ2 h W=> ?_;have U:c.length+(I.length+1)<=lim:=H
  induction b with
  |false=>exact n I i m c O t σ2 K K' (M.ext W) (λa T=>S a<|Qe _ T) (x.trans W) (λV J=>Z V<|W.trans J) (C.ext W) Y (by exact Kh U) h k
  |true=>
   refine B P ρ' f σ2 _ _ (A.ext W) h λe u v V F h j=> ?_;have J:=W.trans j.ext;have z:PartOK σ fp (tout tg.names E u) F:=vW j.part (x.trans W) o λy a T=>(b3 y a T).imp_left λq=>⟨q.1,S a<|Qk _ q.2⟩
   refine n I i (m++[e]) (c++[v]) (O++F) (tj t<|tout tg.names E u) V K K' (M.ext J) (λa T=>S a<|Qe _ T) (x.trans J) (λN x4=>Z N<|J.trans x4)
    ((C.ext J).app ⟨v,[],F,[],rfl,(QH _).symm,j.rd,rfl,rfl⟩) (Y.join z λo0 w a T hb=> ?_) (by rw[QG,WE];exact zle (QU<|QI _ _ _) U) h k
   have hu:u=Jb:=by
    induction u with
    |none=>rfl
    |some xs=>exact sn (mI w).1
   obtain⟨l,el⟩:=(C.ext W).dom a T;have:=(j.part.own hu).2 a hb;exact sn<|el.symm.trans this
end
theorem ERs.from{fp:String->List Jg}(h:ERs σ1 fp σ' ds vs F)(x:Ext σ σ1):ERs σ fp σ' ds vs F:=by
 induction h with
 |nil=>exact .nil
 |cons r p q h i=>exact .cons r (p.from x) q i
theorem ERs.mem{fp:String->List Jg}{ds:List (D×Tag)}(h:ERs σ fp σ' ds vs F):∀p∈ds.zip F,PartOK σ fp p.1.2 p.2:=by
 induction h with
 |nil=>intro p K;cases K
 |cons r p q h i=>
  intro x hx;cases hx with
  |head=>exact p
  |tail _ hx=>exact i x hx
theorem oa{fp:String->List Jg}{d:D}(env:EnvE σ Δ ρ fp)(r:ER σ fp σ1 d t v F)(x:Ext σ1 σ2)(j:ERs σ1 fp σ2 ds vs s):
  ERs σ fp σ2 ((d,t)::ds) (v::vs) (F::s):=
 .cons (r.rd.ext x) r.part (λp h e=>r.part.apart env.dom r.ext r.rd.dom (j.mem p h) e) (j.from r.ext)
section
variable{G:Gx}{cv:Cl}
theorem ze:DOK G cv (.glob x):=λΔ ρ fp σ Q X r H n h k N=>by
 have h:dglob Q (G.glob x):=h;show oV _ (G.glob x)
 induction e:G.glob x with
 |none=>rw[e] at h;exact h.elim
 |some v=>
  rw[e] at h
  induction v using PV.casesOn with
  |int i=>exact k _ _ _ _ _ h<|.at0 (.refl σ) ⟨rfl,rfl⟩
  |str i=>exact k _ _ _ _ _ h<|.at0 (.refl σ) ⟨rfl,rfl⟩
  |_=>exact h.elim
theorem A9:DOK G cv (.loc x):=λΔ ρ fp σ Q X t H n h k N=>by
 obtain⟨⟨d,b⟩,e,h⟩:=ey (show dOE (λp=>Q p.1<|tg0 p.1 (Ja [x])) (Δ.get x) from h);obtain⟨v,g,r⟩:=n.at_ x d b e;show oV _ (ρ.get x);rw[g];refine k _ _ _ _ _ h ⟨r,.refl σ,PartOK.tg0 ⟨λe=>(sn e),λs e a T=> ?_⟩ r⟩;obtain rfl:=sj e;exact .inr ⟨x,.head _,T⟩
theorem z6(T:DOK G cv a)(R:DOK G cv b):DOK G cv (.bin o a b):=λΔ ρ fp σ Q X M H n h k N=>
 T Δ ρ fp σ _ X _ H n h (λu l v σ1 O h r=>R Δ ρ fp σ1 _ X _ H (n.ext r.ext) h (λZ t m σ2 I h D=>
  ww (r.ext.trans D.ext) (r.rd.ext D.ext) D.rd r.part (D.part.from r.ext) (λe o0=>r.part.apart n.dom r.ext r.rd.dom D.part (.inl e)) h k) λc d ws σ' F q x=>N c d ws σ' F q (x.from r.ext)) N
theorem AO(T:DOK G cv a):DOK G cv (.not_ a):=λΔ ρ fp σ Q X t H e h k x=>
 T Δ ρ fp σ _ X _ H e h (λd F v σ1 O h r=>by
  obtain⟨i,rfl,h⟩:=eI h;rw[r.rd.1];exact k _ _ _ _ _ h (.at0 r.ext ⟨rfl,rfl⟩)) x
theorem Ac(T:DOK G cv a)(R:DOK G cv b):DOK G cv (.and_ a b):=λΔ ρ fp σ Q X M H e h k N=>
 T Δ ρ fp σ _ X _ H e h (λu l A σ1 O h C=>by
  obtain⟨i,rfl,h⟩:=eI h;rw[C.rd.1]
  induction i with
  |true=>exact R Δ ρ fp σ1 _ X _ H (e.ext C.ext) h (λd t v σ2 F h r=>k _ _ _ _ _ h<|r.from C.ext) λc s ws σ' F q x=>N c s ws σ' F q<|x.from C.ext
  |false=>exact k _ _ _ _ _ h (.at0 C.ext ⟨rfl,rfl⟩)) N
theorem Be(T:DOK G cv a)(R:DOK G cv b):DOK G cv (.or_ a b):=λΔ ρ fp σ Q X M H e h k N=>
 T Δ ρ fp σ _ X _ H e h (λu l A σ1 O h C=>by
  obtain⟨i,rfl,h⟩:=eI h;rw[C.rd.1]
  induction i with
  |false=>exact R Δ ρ fp σ1 _ X _ H (e.ext C.ext) h (λd t v σ2 F h r=>k _ _ _ _ _ h<|r.from C.ext) λc s ws σ' F q x=>N c s ws σ' F q<|x.from C.ext
  |true=>exact k _ _ _ _ _ h (.at0 C.ext ⟨rfl,rfl⟩)) N
theorem lP{d:D}{v:PV}(r:RdF σ d v F)(h:iT d=Jd):v.isNone=d.isNone:=by
 induction d using D.casesOn with
 |none=>rw[r.1];rfl
 |bool=>rw[r.1];rfl
 |int=>rw[r.1];rfl
 |str=>rw[r.1];rfl
 |scr=>rw[r.1.1];rfl
 |hole=>exact tf h
 |tup l=>obtain⟨m,rfl,o0⟩:=r;rfl
 |list l=>obtain⟨a,m,G,rfl,o0⟩:=r;rfl
 |dict k l=>obtain⟨a,m,G,rfl,o0⟩:=r;rfl
 |inst c l=>obtain⟨a,d,m,rfl,o0⟩:=r;rfl
theorem uG(T:DOK G cv a):DOK G cv (.isNone a):=λΔ ρ fp σ Q X t H e h k x=>
 T Δ ρ fp σ _ X _ H e h (λd F v σ1 O h r=>by
  rw[lP r.rd h.1];exact k _ _ _ _ _ h.2 (.at0 r.ext ⟨rfl,rfl⟩)) x
theorem rN(T:DOK G cv a):DOK G cv (.notNone a):=λΔ ρ fp σ Q X t H e h k x=>
 T Δ ρ fp σ _ X _ H e h (λd F v σ1 O h r=>by
  rw[lP r.rd h.1];exact k _ _ _ _ _ h.2 (.at0 r.ext ⟨rfl,rfl⟩)) x
theorem AQ(T:DOK G cv a)(R:DOK G cv b):DOK G cv (.cmp o a b):=λΔ ρ fp σ Q X M H e h k N=>
 T Δ ρ fp σ _ X _ H e h (λu l v σ1 O h C=>R Δ ρ fp σ1 _ X _ H (e.ext C.ext) h (λZ t m σ2 I h D=>
  ny (C.rd.ext D.ext) D.rd h λr q=>k _ _ _ _ _ q (.at0 (C.ext.trans D.ext) ⟨rfl,rfl⟩)) λc d ws σ' F q x=>N c d ws σ' F q (x.from C.ext)) N
theorem zO(T:DOK G cv a)(R:DOK G cv b)(Z:DOK G cv c):DOK G cv (.cmp2 a P b o c):=λΔ ρ fp σ Q X w H e h k N=>
 T Δ ρ fp σ _ X _ H e h (λM l v σ1 O h C=>R Δ ρ fp σ1 _ X _ H (e.ext C.ext) h (λi t m σ2 I h D=>
  ny (C.rd.ext D.ext) D.rd h λr q=>by
   have W:=C.ext.trans D.ext
   induction r with
   |false=>exact k _ _ _ _ _ q<|.at0 W ⟨rfl,rfl⟩
   |true=>exact Z Δ ρ fp σ2 _ X _ H (e.ext W) q (λz f j p g h u=>ny (D.rd.ext u.ext) u.rd h λr q=>k _ _ _ _ _ q (.at0 (W.trans u.ext) ⟨rfl,rfl⟩)) λc d ws σ' F q x=>N c d ws σ' F q (x.from W)) λc d ws σ' F q x=>N c d ws σ' F q (x.from C.ext)) N
theorem AL(T:DOKs G cv l):DOK G cv (.tup l):=λΔ ρ fp σ Q X t H e h k N=>
 T Δ ρ fp σ _ X _ H e h (λd v σ1 F h x r=>k _ _ _ _ _ h.2 ⟨⟨v,rfl,by rw[r.rds.len];exact h.1,r.rds⟩,x,r.part⟩) N
theorem yS(T:DOKs G cv l):DOK G cv (.list l):=λΔ ρ fp σ Q X t H e h k N=>
 T Δ ρ fp σ _ X _ H e h (λd v σ1 F h x r=>dJ x r.rds (by rw[r.rds.len];exact h.1) r.part h.2 k) N
theorem Ap(T:DOK G cv a)(R:DOK G cv i):DOK G cv (.sub a i):=λΔ ρ fp σ Q X w H n h k N=>
 T Δ ρ fp σ _ X _ H n h (λM l v σ1 O h r=>R Δ ρ fp σ1 _ X _ H (n.ext r.ext) h (λZ t m σ2 I h b=>by
  obtain⟨d,e,h⟩:=gO h;obtain⟨p,F,L,u,V⟩:=zK (r.rd.ext b.ext) b.rd e;exact L _ (k _ _ _ _ _ h ⟨u,r.ext.trans b.ext,(r.part.sub V).tg0 u⟩)) λc s ws σ' F q x=>N c s ws σ' F q (x.from r.ext)) N
theorem y9(T:DOK G cv a)(R:DOK G cv i):DOK G cv (.upto a i):=λΔ ρ fp σ Q X M H e h k N=>
 T Δ ρ fp σ _ X _ H e h (λu D v σ1 O h r=>R Δ ρ fp σ1 _ X _ H (e.ext r.ext) h (λZ t B σ2 I h b=>by
  obtain⟨n,rfl,h⟩:=ew h;rw[b.rd.1];exact pg (f:=λl=>l.take (cut l.length n)) (f':=λl=>l.take (cut l.length n)) (ok:=λm=>0<=n/\n<m) (v6 n) (r.ext.trans b.ext) (r.rd.ext b.ext) r.part h k) λc d ws σ' F q x=>N c d ws σ' F q (x.from r.ext)) N
theorem y8(T:DOK G cv a)(R:DOK G cv i):DOK G cv (.from_ a i):=λΔ ρ fp σ Q X M H e h k N=>
 T Δ ρ fp σ _ X _ H e h (λu D v σ1 O h r=>R Δ ρ fp σ1 _ X _ H (e.ext r.ext) h (λZ t B σ2 I h b=>by
  obtain⟨n,rfl,h⟩:=ew h;rw[b.rd.1];exact pg (f:=λl=>l.drop (cut l.length n)) (f':=λl=>l.drop (cut l.length n)) (ok:=λm=>1<=n/\n<=m) (wj n) (r.ext.trans b.ext) (r.rd.ext b.ext) r.part h k) λc d ws σ' F q x=>N c d ws σ' F q (x.from r.ext)) N
theorem tw{σ1 σ2 σ3:PH}{F:List (List Jg)}{fp:String->List Jg}{chk:PH->Prop}(r:ERs σ fp σ1 ds vs F)(h:∀j,(∀a∈F.flatten,j a=σ1 a)->chk j)(x:Ext σ1 σ2):chk σ2:=
 h σ2 λa T=>by obtain⟨l,e⟩:=r.rds.dom a T;exact(x a _ e).trans e.symm
theorem zp(c:DOK G cv g)(hi:DOKs G cv i):DOK G cv (.comp g tg k i):=λΔ ρ fp σ Q X M H e h n N=>
 ⟨h.1,hi Δ ρ fp σ _ X _ H e h.2 (λd w σ1 j h x r=>pB r h λs l z Gx h U T S C=>⟨T,
  oo e r.part (λP O f σ1 K W o0 h k=>k _ _ h<|.refl _) (λP O f σ1 K W v h k=>c P O f σ1 K _ W _ v h k λo0 o0 o0 o0 o0 q o0=>q)
   s l Gx [] [] [] Jb σ1 _ _ U S x (λD J=>tw (σ3:=D) r C J) ⟨rfl,rfl⟩ .nil (by rw[Wv,KR];exact T) h λb t a σ2 F h x r p T=>dJ x r T p h n⟩) N⟩
theorem sS(V:DOK G cv g)(W:DOK G cv c)(hi:DOKs G cv i):DOK G cv (.compIf g tg k i c):=λΔ ρ fp σ Q X M H e h n N=>
 ⟨h.1,hi Δ ρ fp σ _ X _ H e h.2 (λR w σ1 j h x r=>pB r h λs l z Gx h U T S Z=>⟨T,
  oo e r.part (λP O f σ1 K C Y h k=>W P O f σ1 _ _ _ _ Y h (λd t v σ2 F h r=>by
    obtain⟨b,rfl,h⟩:=eI h;rw[r.rd.1];exact k _ _ h r.ext) λo0 o0 o0 o0 o0 q o0=>q) (λP O f σ1 K C Y h k=>V P O f σ1 K _ C _ Y h k λo0 o0 o0 o0 o0 q o0=>q)
   s l Gx [] [] [] Jb σ1 _ _ U S x (λD J=>tw (σ3:=D) r Z J) ⟨rfl,rfl⟩ .nil (by rw[Wv,KR];exact T) h λu t a σ2 I h x r p T=>dJ x r T p h n⟩) N⟩
theorem nS{f:String}{ds:List (D×Tag)}{vs:List PV}{s:List (List Jg)}{σ σ1:PH}{fp:String->List Jg}{Q:DQ}{X:DX}{Q':Post}{H:XPost}(h:aR cv f (flags ds) (λd b=>Q d (tg0 d (cond b Jb (tj (Ja []) (tjs ds))))) X)(x:Ext σ σ1)(r:ERs σ fp σ1 ds vs s)
  (k:∀d t v σ' F,Q d t->ER σ fp σ' d t v F->Q' v σ')(N:∀c ds ws σ' F,X c ds->XOK σ σ' ds ws F->H ⟨c,ws⟩ σ'):cv f vs σ1 Q' H:=
 h σ1 vs s Q' H r.args (λd b v σ2 F q C=>by
   have W:Ext σ σ2:=λa o e=>C.kept a o (x a o e) λw=>by have:=r.owned a w;exact sn<|e.symm.trans this
   refine k _ _ _ _ _ q ⟨C.rd,W,PartOK.tg0 ?_ C.rd⟩
   induction b with
   |true=>exact⟨λo0=>⟨(C.own rfl).1,λa T=>((C.own rfl).2 a T).elim x.new (r.owned a)⟩,λP e=>(ns e)⟩
   |false=>
    obtain⟨y,p,m⟩:=wa [] (tjs ds);show PartOK σ fp (tj (Ja []) (tjs ds)) F;rw[p];refine⟨λe=>(sn e),λzs e a T=> ?_⟩;obtain rfl:=sj e;exact(C.al a T).elim (λq=> .inl (x.new q)) λq=>(r.part.wide m).al y rfl a q)
  λc U ws σ2 F q E=>N c U ws σ2 F q ⟨E.rd,λa o e=>E.kept a o (x a o e) (λw=>by have:=r.owned a w;exact sn<|e.symm.trans this),E.nd,λa T=>(E.own a T).elim x.new (r.owned a)⟩
theorem yx{args:List E}(a:DOKs G cv args):DOK G cv (.call f args):=λΔ ρ fp σ Q X t H e h k N=>
 ⟨h.1,a Δ ρ fp σ _ X _ H e h.2 (λd v σ1 F h x r=>nS h x r k N) N⟩
theorem yM{d:D}(r:RdF σ d v F)(h:dIns c d):onI c σ v:=by
 induction d using D.casesOn with
 |inst Q l=>
  obtain rfl:Q=c:=h;obtain⟨a,b,m,rfl,e,w,o0⟩:=r;show onIO Q σ (σ a);rw[e];show onFd Q (σ b);rw[w];rfl
 |_=>exact h.elim
theorem vI{args:List E}(w:DOK G cv o)(a:DOKs G cv args):DOK G cv (.mcall c f o args):=λΔ ρ fp σ Q X M H e h k N=>
 ⟨h.1,w Δ ρ fp σ _ X _ H e h.2 (λd t v σ1 F h r=>⟨yM r.rd h.1,a Δ ρ fp σ1 _ X _ H (e.ext r.ext) h.2 (λs J σ2 i h x j=>nS h (r.ext.trans x) (oa e r x j) k N) λc s ws σ' F q x=>N c s ws σ' F q<|x.from r.ext⟩) N⟩
theorem Bi{args:List E}(a:DOKs G cv args):DOK G cv (.bi b args):=λΔ ρ fp σ Q X t H e h k N=>
 ⟨h.1,a Δ ρ fp σ _ X _ H e h.2 (λd v σ1 F h x r=>yi x r h k) N⟩
theorem AP(T:DOK G cv a):DOK G cv (.isi a t):=λΔ ρ fp σ Q X M H n h k x=>
 ⟨h.1,T Δ ρ fp σ _ X _ H n h.2 (λd F v σ1 O h r=>by
  obtain⟨b,e,h⟩:=sH h;rw[zS r.rd e];exact k _ _ _ _ _ h (.at0 r.ext ⟨rfl,rfl⟩)) x⟩
theorem jN(h:RdFs σ ds l F)(e:dlook ks ds k=Jb):klook ks l k=Jb:=by
 unfold klook;unfold dlook at e
 induction T:kidx ks k with
 |none=>rfl
 |some j=>
  rw[T] at e;show l[j]? =Jb;have e:ds[j]? =Jb:=e;rw[WR] at e ⊢;rw[h.len];exact e
theorem yG{d y:D}(r:RdF σ d v F)(h:dfld G f d=Ja y):X2 λp z=>A3 (pattr G σ f v=Ja p) (RdF σ y p z) (z.Sublist F):=by
 induction d using D.casesOn with
 |inst c l=>
  obtain⟨a,b,m,rfl,T,e,r⟩:=r;obtain⟨j,N,Y⟩:=Qq.mp (show(((G.flds c).idxOf? f).bind λj=>l[j]?)=Ja y from h);obtain⟨p,z,P,g,H⟩:=r.get j y Y;refine⟨p,z,?_,g,H⟩;show pfld G σ f (σ a)=_;rw[T];show pfd G f (σ b)=_;rw[e];exact Qq.mpr ⟨j,N,P⟩
 |_=>first|exact bnx h|exact onx h|cases h
theorem xi:DOK G cv .dict0:=λΔ ρ fp σ Q X r H e h k x=>
 ⟨h.1,λa T=>k _ _ _ _ [a] h.2 ⟨⟨a,[],[],rfl,PH.set_same _ _ _,⟨QT _,rfl⟩,rfl,rfl,rfl⟩,Ext.set T _,PartOK.nil.cons T λq=>(bQ q)⟩⟩
theorem Al(ha:DOK G cv a)(hb:DOK G cv i):DOK G cv (.get a i):=λΔ ρ fp σ Q X Q' X' env h k kx=>
 ha Δ ρ fp σ _ X _ X' env h (λda ta va σ1 Fa h ra=>by
  obtain⟨ks,l,rfl,h⟩:=oO h;obtain⟨b,m,G0,rfl,e,hl,rfl,r⟩:=ra.rd;have at_:∀ {σ2:PH} {K:List (List KA)->List PV->Prop},Ext σ1 σ2->K ks m->onD σ2 K (.ref b):=λ{σ2 K} x h=>by
   show onDO K (σ2 b);rw[x b _ e];exact h
  refine⟨at_ (.refl _) trivial,hb Δ ρ fp σ1 _ X _ X' (env.ext ra.ext) h (λdb tb vb σ2 Fb h rb=>at_ rb.ext<|sA rb.rd h λx h=> ?_) λc ds ws σ' F q x=>kx c ds ws σ' F q<|x.from ra.ext⟩;have r2:=r.ext rb.ext
  induction e:dlook ks l x with
  |some d=>
   rw[e] at h;obtain⟨j,p,G',o0,o0,o0,g1,g2,g3⟩:=r2.look e;rw[g1];exact k _ _ _ _ _ h ⟨g2,ra.ext.trans rb.ext,(ra.part.sub<|g3.trans (Ku _ _)).tg0 g2⟩
  |none=>
   rw[e] at h;rw[jN r2 e];exact dJ (ra.ext.trans rb.ext) (ds:=[]) (l:=[]) (F:=[]) ⟨rfl,rfl⟩ (QT _) .nil h k) kx
theorem zy:DOK G cv (.attr x f):=λΔ ρ fp σ Q X t H n h k N=>by
 obtain⟨⟨d,b⟩,e,h⟩:=ey (show dOE (λp=>dOD (λd=>Q d<|tg0 d (Ja [x]))<|dfld G f p.1) (Δ.get x) from h);obtain⟨y,w,h⟩:=gO h;obtain⟨v,g,r⟩:=n.at_ x d b e;show oV _ (ρ.get x);rw[g];obtain⟨p,F,W,M,s⟩:=yG r w;show oV _ (pattr G σ f v);rw[W];refine k _ _ _ _ _ h ⟨M,.refl σ,PartOK.tg0 ⟨λe=>(sn e),λP e a T=> ?_⟩ M⟩;obtain rfl:=sj e;exact .inr ⟨x,.head _,s.subset T⟩
mutual
theorem bk:∀e:E,DOK G cv e
 | .none=>λΔ ρ fp σ Q X Q' H env h k N=>k _ _ _ _ _ h<|.at0 (.refl σ) ⟨rfl,rfl⟩
 | .bool _=>λΔ ρ fp σ Q X Q' H env h k N=>k _ _ _ _ _ h<|.at0 (.refl σ) ⟨rfl,rfl⟩
 | .int _=>λΔ ρ fp σ Q X Q' H env h k N=>k _ _ _ _ _ h<|.at0 (.refl σ) ⟨rfl,rfl⟩
 | .str _=>λΔ ρ fp σ Q X Q' H env h k N=>k _ _ _ _ _ h<|.at0 (.refl σ) ⟨rfl,rfl⟩
 | .loc _=>A9
 | .glob _=>ze
 | .bin _ a b=>z6 (bk a)<|bk b
 | .not_ a=>AO<|bk a
 | .and_ a b=>Ac (bk a)<|bk b
 | .or_ a b=>Be (bk a)<|bk b
 | .isNone a=>uG<|bk a
 | .notNone a=>rN<|bk a
 | .cmp _ a b=>AQ (bk a)<|bk b
 | .cmp2 a _ b _ c=>zO (bk a) (bk b)<|bk c
 | .tup l=>AL<|dc l
 | .list l=>yS<|dc l
 | .sub a b=>Ap (bk a)<|bk b
 | .upto a b=>y9 (bk a)<|bk b
 | .from_ a b=>y8 (bk a)<|bk b
 | .comp e _ _ l=>zp (bk e)<|dc l
 | .compIf e _ _ l c=>sS (bk e) (bk c)<|dc l
 | .call _ l=>yx<|dc l
 | .bi _ l=>Bi<|dc l
 | .isi a _=>AP<|bk a
 | .meth .. =>λΔ ρ fp σ Q X Q' H env h k N=>h.elim
 | .dict0=>xi
 | .get a b=>Al (bk a)<|bk b
 | .sd .. =>λΔ ρ fp σ Q X Q' H env h k N=>h.elim
 | .attr _ _=>zy
 | .mcall _ _ o l=>vI (bk o)<|dc l
theorem dc:∀es:List E,DOKs G cv es
 |[]=>λΔ ρ fp σ Q X Q' H env h k N=>k _ _ _ _ h (.refl σ) .nil
 |e::es=>λΔ ρ fp σ Q X Q' H env h k N=>bk e Δ ρ fp σ _ X _ H env h (λd t v σ1 F h r=>
   dc es Δ ρ fp σ1 _ X _ H (env.ext r.ext) h (λds vs σ2 i h x s=>k _ _ _ _ h (r.ext.trans x) (oa env r x s)) λc ds ws σ' F q x=>N c ds ws σ' F q (x.from r.ext)) N
end
end
set_option genCtorIdx false in
inductive DFl where
 |next
 |ret(d:D)(b:Bool)
abbrev bX:=DFl->DRho->Prop
abbrev DSX:=String->List D->DRho->Prop
noncomputable def locOf:E->Option String
 | .loc x=>Ja x
 |_=>Jb
mutual
noncomputable def dwm(G:Gx)(c:DCl):E->DRho->(D->DRho->Prop)->Prop
 | .loc x,L,Q=>dOE (λp=>cond p.1.atom (Q p.1 L) (p.2=Jc/\Q p.1 (L.put x (.hole,Jc)))) (L.get x)
 | .tup l,L,Q=>dwms G c l L (λds P=>ds.length<=lim/\Q (.tup ds) P)
 |e,L,Q=>dwe G c e L (λd t=>t=Jb/\Q d L) λo0 o0=>False
noncomputable def dwms(G:Gx)(c:DCl):List E->DRho->(List D->DRho->Prop)->Prop
 |[],L,Q=>Q [] L
 |e::es,L,Q=>dwm G c e L (λd i=>dwms G c es i (λds J=>Q (d::ds) J))
end
noncomputable def isScr:D->Bool
 | .scr _=>Jc
 |_=>Jd
noncomputable def dpath(G:Gx)(c:DCl):E->DRho->(String->List D->D->Prop)->DX->Prop
 | .loc x,L,Q,_=>dOE (λp=>p.2=Jc/\Q x [] p.1) (L.get x)
 | .sub a i,L,Q,X=>dpath G c a L (λx s n=>dwe G c i L (λj o0=>isScr n=Jd/\dOD (λd=>Q x (s++[j]) d) (dsub n j)) X) X
 |_,_,_,_=>False
def dset1(i:D)(f:D->Option D):D->Option D
 | .list l=>match i with
  | .int n=>(place l.length n).bind λj=>(l[j]?).bind λx=>(f x).map λy=> .list (l.set j y)
  |_=>Jb
 | .tup l=>match i with
  | .int n=>(place l.length n).bind λj=>(l[j]?).bind λx=>(f x).map λy=> .tup (l.set j y)
  |_=>Jb
 | .dict s l=>(keyD i).bind λk=>(kidx s k).bind λj=>(l[j]?).bind λx=>(f x).map λy=> .dict s (l.set j y)
 |_=>Jb
noncomputable def updp:List D->(D->Option D)->D->Option D
 |[],f=>f
 |i::is,f=>dset1 i<|updp is f
def dput(L:DRho)(x:String)(ps:List D)(dn':D)(K:DRho->Prop):Prop:=
 dOE (λp=>dOD (λd=>K<|L.put x (d,Jc))<|updp ps (λo0=>Ja dn') p.1) (L.get x)
noncomputable def donFl(K:DRho->Prop)(Q:bX):bX
 | .next,L=>K L
 | .ret d b,L=>Q (.ret d b) L
noncomputable def gV(tg:Tg)(body:DRho->bX->Prop)(Q:bX):List D->DRho->Prop
 |[],L=>Q .next L
 |x::s,L=>dOR (λP=>body P (donFl (λJ=>gV tg body Q s J) Q)) (eD tg x x.atom L)
def dmeth(m:Me)(args:List D)(n:D)(K:D->Prop):Prop:=
 match m with
 | .append=>match args with
  |[d]=>dLst (λl=>l.length<lim/\K (.list<|l++[d])) n
  |_=>False
 | .remove=>match args with
  |[d]=>dLst (λl=>((d.okd 40=Jc/\D.okds 40 l=Jc)/\D.atoms l=Jc)/\oNat (λj=>K<|.list (l.eraseIdx j)) (l.findIdx? λy=>D.eqv y d)) n
  |_=>False
def drecv(m:Me)(d:D):Prop:=
 match m with
 |_=>dLst (λo0=>True) d
noncomputable def ownD:Option (D×Bool)->Bool
 |some (d,b)=> !d.atom&&b
 |none=>Jd
def splO(L:DRho)(r:List E)(k:Option (List E×String×List E)):Option String->Option (List E×String×List E)
 |some x=>cond (ownD<|L.get x) (Ja ([],x,r)) k
 |none=>k
noncomputable def spl(L:DRho):List E->Option (List E×String×List E)
 |[]=>Jb
 |e::r=>splO L r ((spl L r).map λq=>(e::q.1,q.2)) (locOf e)
def offT(x:String):Tag->Bool
 |none=>Jc
 |some s=> !hasS s x
def offs(x:String)(vs:List (D×Tag)):Bool:=vs.all λp=>offT x p.2
noncomputable abbrev lent(vs:List (D×Tag)):List (D×Bool):=vs.map λp=>(p.1,Jd)
def dio(G:Gx)(c:DCl)(f:String)(L:DRho)(K:DRho->Prop):Option (List E×String×List E)->Prop
 |some (a,x,b)=>G.fn f=Jc/\dwes G c a L (λv=>offs x v=Jc/\dOE (λp=>p.2=Jc/\dwes G c b L (λq=>offs x q=Jc/\
   c.io f v.length (lent v++(p.1,Jc)::lent q) λd=>K (L.put x (d,Jc))) λo0 o0=>False) (L.get x)) λo0 o0=>False
 |none=>False
def dsetI(n i d:D)(K:D->Prop):Prop:=
 match n with
 | .list l=>dInt (λk=>oNat (λj=>K (.list (l.set j d))) (place l.length k)) i
 | .dict s l=>l.length<lim/\oK (λk=>K (dkset s l k d)) (keyD i)
 |_=>False
def dens(ks:List (List KA))(l:List D)(k:List KA):D:=match dlook ks l k with
 |some _=> .dict ks l
 |none=> .dict (ks++[k]) (l++[.list []])
def dsd(G:Gx)(c:DCl)(m:Me)(args:List E)(L:DRho)(K:DRho->Prop)(x:String)(k:E):Prop:=
 dOE (λp=>p.2=Jc/\dDct (λs l=>dwe G c k L (λj o0=>l.length<lim/\oK (λkey=>(λZ=>dOD (λr=>drecv m r/\dwes G c args (L.put x (Z,Jc)) (λv=>tjs v=Jb/\dmeth m (fsts v) r λn=>dOD (λd=>K<|L.put x (d,Jc))<|dset1 j (λo0=>Ja n) Z) λo0 o0=>False)<|dsub Z j)<|dens s l key) (keyD j)) λo0 o0=>False) p.1) (L.get x)
noncomputable def sdOf:E->Option (E×E)
 | .sd a k=>Ja (a,k)
 |_=>Jb
noncomputable def dsdL(G:Gx)(c:DCl)(m:Me)(args:List E)(L:DRho)(K:DRho->Prop)(k:E):Option String->Prop
 |some x=>dsd G c m args L K x k
 |none=>False
def dmeE(G:Gx)(c:DCl)(m:Me)(args:List E)(L:DRho)(K:DRho->Prop)(o:E):Option String->Option (E×E)->Prop
 |some x,_=>dOE (λp=>drecv m p.1) (L.get x)/\dwms G c args L (λf i=>dOE (λp=>p.2=Jc/\dmeth m f p.1 λd=>K (i.put x (d,Jc))) (i.get x))
 |none,Ja a=>dsdL G c m args L K a.2<|locOf a.1
 |none,Jb=>dpath G c o L (λx s r=>drecv m r/\dwes G c args L (λv=>tjs v=Jb/\dmeth m (fsts v) r λn=>dput L x s n K) λo0 o0=>False) λo0 o0=>False
def dexpr(G:Gx)(M:DCl):E->DRho->(DRho->Prop)->DSX->Prop
 | .meth o m args,L,K,X=>dmeE G M m args L K o (locOf o)<|sdOf o
 | .call f args,L,K,X=>dio G M f L K (spl L args)\/dwe G M (.call f args) L (λo0 o0=>K L) λc l=>X c l L
 |e,L,K,X=>dwe G M e L (λo0 o0=>K L) λc l=>X c l L
mutual
noncomputable def S.noas(x:String):S->Bool
 | .assign tg _=> !tg.names.contains x
 | .if_ _ b o=>S.noass x b&&S.noass x o
 | .for_ tg _ _ b=> !tg.names.contains x&&S.noass x b
 | .while_ _ b=>S.noass x b
 | .try1 .. =>Jd
 |_=>Jc
noncomputable def S.noass(x:String):List S->Bool
 |[]=>Jc
 |s::r=>S.noas x s&&S.noass x r
end
noncomputable def dwhGo(tst:DRho->(Bool->Prop)->Prop)(body:DRho->bX->Prop)(Q:bX):Nat->DRho->Prop
 |0,_=>False
 |n+1,L=>tst L λb=>cond b (body L (donFl (λJ=>dwhGo tst body Q n J) Q)) (Q .next L)
mutual
noncomputable def dws(G:Gx)(M f:DCl):S->DRho->bX->DSX->Prop
 | .assign (.name x) e,L,Q,X=>dwe G M e L (λd t=>Q .next ((L.frz t).put x (d,t.isNone))) λc l=>X c l L
 | .assign (.tup xs) e,L,Q,X=>G.calm=Jc/\dwe G M e L (λd t=>dOR (λP=>Q .next P) (eD (.tup xs) d t.isNone (L.frz t))) λc l=>X c l L
 | .setIdx o i e,L,Q,X=>dwm G M e L (λd u=>dpath G M o u (λx ps n=>dwe G M i u (λj o0=>dsetI n j d λdn'=>dput u x ps dn' λP=>Q .next P) λo0 o0=>False) λo0 o0=>False)
 | .expr e,L,Q,X=>dexpr G M e L (λP=>Q .next P) X
 | .ret e,L,Q,X=>dwm G M e L (λd P=>Q (.ret d Jc) P)\/dwe G M e L (λd t=>Q (.ret d t.isNone) L) λc l=>X c l L
 | .if_ t b o,L,Q,X=>dwe G M t L (λv o0=>dBool (λc=>cond c (dwss G M f b L Q X) (dwss G M f o L Q X)) v) λc l=>X c l L
 | .for_ tg k g b,L,Q,X=>G.calm=Jc/\dwes G M g L (λvs=>dsrc k (fsts vs) λxs=>gV tg (λL K=>dwss G M f b L K λo0 o0 o0=>False) Q xs (L.frz (tjs vs))) λc l=>X c l L
 | .while_ t b,L,Q,X=>G.calm=Jc/\∃k,dwhGo (λL K=>dwe G M t L (λv o0=>dBool K v) λc l=>X c l L) (λL K=>dwss G M f b L K X) Q k L
 | .raise c args,L,_,X=>(G.full=Jc/\G.calm=Jc/\(G.mks.contains c=Jc\/(G.inis.contains c=Jc/\args.length=(G.flds c).length)))/\dwes G M args L (λvs=>X c (((fsts vs).take (G.flds c).length).map λo0=> .hole) L) λc l=>X c l L
 | .try1 b c h,L,Q,_=>(G.full=Jc/\G.calm=Jc/\G.cs.contains c=Jc)/\dwss G M f b L Q λe es u=>
   if G.sub e c then dwss G.un f f h u Q λo0 o0 o0=>False
   else False
noncomputable def dwss(G:Gx)(M f:DCl):List S->DRho->bX->DSX->Prop
 |[],L,Q,_=>Q .next L
 |s::r,L,Q,X=>dws G M f s L (donFl (λu=>dwss G M f r u Q X) Q) X
end
structure DSrc where
 S:Jg->Prop
 pin:String->Option PV
instance:CoeFun DSrc λo0=>Jg->Prop:=⟨DSrc.S⟩
structure Inv(N:PH)(S:DSrc)(P:List Jg)(Δ:DRho)(ρ:Rho)(σ:PH)(fp:String->List Jg):Prop where
 env:EnvE σ Δ ρ fp
 sep:∀x d,Δ.get x=Ja (d,Jc)->∀y,y≠x->Disj (fp x) (fp y)
 own:∀x d,Δ.get x=Ja (d,Jc)->(fp x).Nodup/\∀a∈fp x,N a=Jb
 src:∀x,∀a∈fp x,S a
 kept:Ext N σ
 pend:∀a∈P,(∃l:MO,σ a=Ja l.1)/\∀x,a∉fp x
 newS:∀a,N a=Jb->S a
 pin:∀x v,S.pin x=Ja v->ρ.get x=Ja v
theorem Rho.gget_mem:∀ρ:Rho,ρ.get x=Ja v->x∈keysR ρ
 |(y,o)::r,h=>by
  by_cases W:y=x
  ·subst W;exact .head _
  ·simp only[Rho.get_c,W,if_false] at h;exact .tail _<|Rho.gget_mem r h
section
variable{N σ σ':PH}{S:DSrc}{P:List Jg}{Δ:DRho}{ρ:Rho}{fp:String->List Jg}
theorem Inv.ext(h:Inv N S P Δ ρ σ fp)(x:Ext σ σ'):Inv N S P Δ ρ σ' fp:=
 ⟨h.env.ext x,h.sep,h.own,h.src,h.kept.trans x,λa T=>by obtain⟨⟨l,e⟩,p⟩:=h.pend a T;exact⟨⟨l,x a _ e⟩,p⟩,h.newS,h.pin⟩
theorem Inv.weak(h:Inv N S P Δ ρ σ fp)(k:∀a∈P',a∈P):Inv N S P' Δ ρ σ fp:=⟨h.env,h.sep,h.own,h.src,h.kept,λa T=>h.pend a (k a T),h.newS,h.pin⟩
theorem Inv.put(h:Inv N S P Δ ρ σ fp){d:D}{F:List Jg}(r:RdF σ d v F)(H:b=Jc->(F.Nodup/\∀a∈F,N a=Jb)/\∀y,y≠x->Disj F (fp y))
  (o:∀y e,y≠x->Δ.get y=Ja (e,Jc)->Disj (fp y) F)(s:∀a∈F,S a)(p:∀a∈P,a∉F)(n:∀w,S.pin x=Ja w->v=w):Inv N S P (Δ.put x (d,b)) (ρ.put x v) σ (fset fp x F):=by
 have g:∀e,(Δ.put x (d,b)).get x=Ja (e,Jc)->b=Jc:=λe q=>by
  have m:=DRho.get_mem _ q;rw[DRho.put_keys] at m;rw[DRho.get_put _ m] at q;cases q;rfl
 refine⟨h.env.put r,λy e q z R=> ?_,λy e q=> ?_,λy a T=> ?_,h.kept,λa T=>⟨(h.pend a T).1,λy W=> ?_⟩,h.newS,λy w q=> ?_⟩
 ·by_cases W:y=x
  ·subst W;have:=g e q;rw[c9,cr R];exact(H this).2 z R
  ·rw[DRho.get_put_ne W] at q;rw[cr W];by_cases f:z=x
   ·subst f;rw[c9];exact o y e W q
   ·rw[cr f];exact h.sep y e q z R
 ·by_cases W:y=x
  ·subst W;rw[c9];exact(H<|g e q).1
  ·rw[DRho.get_put_ne W] at q;rw[cr W];exact h.own y e q
 ·by_cases W:y=x
  ·subst W;rw[c9] at T;exact s a T
  ·rw[cr W] at T;exact h.src y a T
 ·by_cases Q:y=x
  ·subst Q;rw[c9] at W;exact p a T W
  ·rw[cr Q] at W;exact(h.pend a T).2 y W
 ·by_cases W:y=x
  ·subst W;rw[Rho.gput _ (Rho.gget_mem _<|h.pin y w q),n w q]
  ·rw[Rho.gput_ne W];exact h.pin y w q
structure MOK(N:PH)(P:List Jg)(fp:String->List Jg)(F:List Jg):Prop where
 nd:F.Nodup
 own:∀a∈F,N a=Jb
 out:∀a∈F,∀y,a∉fp y
 pend:Disj P F
theorem MOK.nil:MOK N P fp []:=⟨.nil,λa h=>(bQ h),λa h=>(bQ h),λa o0 h=>(bQ h)⟩
theorem DRho.get_map(f:String->D×Bool->D×Bool)(x:String):∀Δ:DRho,DRho.get (Δ.map λp=>(p.1,p.2.map (f p.1))) x=(Δ.get x).map (f x)
 |[]=>rfl
 |(y,o)::r=>by
  by_cases h:y=x
  ·subst h;simp only[Qo,DRho.get_if,if_true]
  ·simp only[Qo,DRho.get_if,h,if_false];exact DRho.get_map f x r
theorem uU(Δ:DRho)(xs:List String):Δ.frz (Ja xs)=Δ.map λp=>(p.1,p.2.map λq=>if xs.contains p.1 then(q.1,q.1.atom&&q.2) else q):=by
 refine Qm λp o0=> ?_;rw[mJ]
 induction xs.contains p.1 with
 |true=>rfl
 |false=>exact Ud (Prod.mk p.1) (congrFun Option.map_id p.2).symm
theorem Inv.map(h:Inv N S P Δ ρ σ fp)(f:String->D×Bool->D×Bool)(j:∀x q,(f x q).1=q.1/\((f x q).2=Jc->q.2=Jc)):Inv N S P (Δ.map λp=>(p.1,p.2.map (f p.1))) ρ σ fp:=by
 have g:∀x d b,DRho.get (Δ.map λp=>(p.1,p.2.map<|f p.1)) x=Ja (d,b)->∃c,Δ.get x=Ja (d,c)/\(b=Jc->c=Jc)/\f x (d,c)=(d,b):=λx d b e=>by
  rw[DRho.get_map] at e;obtain⟨⟨X,c⟩,T,w⟩:=Qt.mp e;have E:=(j x (X,c)).1;have Y:=(j x (X,c)).2;rw[w] at E Y;cases E;exact⟨c,T,Y,w⟩
 refine⟨⟨λx d b e=> ?_,h.env.dom,?_⟩,λx d e=> ?_,λx d e=> ?_,h.src,h.kept,h.pend,h.newS,h.pin⟩
 ·obtain⟨c,T,o0⟩:=g x d b e;exact h.env.at_ x d c T
 ·rw[<-h.env.keys,QE];rfl
 ·obtain⟨c,T,w,o0⟩:=g x d Jc e;cases w rfl;exact h.sep x d T
 ·obtain⟨c,T,w,o0⟩:=g x d Jc e;cases w rfl;exact h.own x d T
theorem Inv.frz(h:Inv N S P Δ ρ σ fp)(t:Tag):Inv N S P (Δ.frz t) ρ σ fp:=by
 induction t with
 |none=>exact h
 |some s=>
  rw[uU];refine h.map (λx q=>if s.contains x then(q.1,q.1.atom&&q.2) else q) λx q=> ?_;by_cases hx:s.contains x=Jc
  ·rw[Ua hx];exact⟨rfl,λe=>(Qg.mp e).2⟩
  ·rw[Y9 hx];exact⟨rfl,id⟩
end
theorem Rho.put_self:∀ρ:Rho,ρ.get x=Ja v->ρ.put x v=ρ
 |(y,o)::r,h=>by
  by_cases W:y=x
  ·simp only[Rho.get_c,W,if_true] at h;simp only[Rho.put_c,W,if_true,h]
  ·simp only[Rho.get_c,W,if_false] at h;simp only[Rho.put_c,W,if_false,Rho.put_self r h]
theorem set_same{L:Type}{l:List L}{j:Nat}{p:L}(h:l[j]? =Ja p):l.set j p=l:=by
 refine Wz λi=> ?_;rw[KQ]
 split
 ·subst_vars
  rw[h];split
  ·rfl
  ·rename_i t;exact ns<|(KW<|by exact Kc.mp t).symm.trans h
 ·rfl
theorem RdFs.split:∀ {ds:List D} {l:List PV} {F:List Jg},RdFs σ ds l F->∀ (j:Nat) (d:D),ds[j]? =Ja d->X4 λp A B y=>A4 (l[j]? =Ja p) (F=A++(y++B)) (RdF σ d p y) (∀σ' d' q I,Ag A σ σ'->Ag B σ σ'->RdF σ' d' q I->RdFs σ' (ds.set j d') (l.set j q) (A++(I++B)))
 |d::ds,l,F,a,0,e,O=>by
  obtain⟨p,s,Q,t,E,Y,h,w⟩:=a;subst E Y;obtain rfl:=sj O;exact⟨p,[],t,Q,rfl,rfl,h,λσ' d' q I o0 ag r=>⟨q,s,I,t,rfl,rfl,r,w.ag ag⟩⟩
 |d::ds,l,F,a,j+1,e,O=>by
  obtain⟨p,s,Q,t,E,Y,h,w⟩:=a;subst E Y;obtain⟨q,A,B,y,T,U,k,R⟩:=RdFs.split w j e O;subst U;refine⟨q,Q++A,B,y,T,(Kr _ _ _).symm,k,λσ' d' q I g b r=> ?_⟩;exact⟨p,s.set j q,Q,A++(I++B),rfl,Kr _ _ _,h.ag g.left,R σ' d' q I g.right b r⟩
section
variable{N σ σ':PH}{S:DSrc}{P:List Jg}{Δ:DRho}{ρ:Rho}{fp:String->List Jg}
theorem Ag.refl:Ag F σ σ:=⟨λo0 o0=>rfl,λo0 o0 e o0=>e⟩
theorem Ag.trans(x:Ag F a b)(y:Ag F b c):Ag F a c:=⟨λp h=>(y.at_ p h).trans (x.at_ p h),λp o e k=>y.oth p o (x.oth p o e k) k⟩
theorem Inv.agP(h:Inv N S P Δ ρ σ fp)(x:Ext σ σ'):Ag P σ σ':= .of_ext x λa T=>(h.pend a T).1
theorem Inv.new0(h:Inv N S P Δ ρ σ fp)(e:σ a=Jb):N a=Jb:=h.kept.new e
theorem Inv.move(h:Inv N S P Δ ρ σ fp){d d':D}(e:Δ.get x=Ja (d,Jc))(X:ρ.get x=Ja v)(r:RdF σ d' v (A++B))(J:fp x=A++(F++B)):
  Inv N S P (Δ.put x (d',Jc)) ρ σ (fset fp x<|A++B)/\MOK N P (fset fp x<|A++B) F:=by
 obtain⟨nd,o⟩:=h.own x d e;rw[J] at nd o;have sub:∀a,a∈A++B->a∈fp x:=λa T=>by
  rw[J]
  rcases Qr.mp T with q|q
  ·exact Qk _ q
  ·exact Qe _<|Qe _ q
 have s:∀a,a∈F->a∈fp x:=λa T=>by rw[J];exact Qe _<|Qk _ T
 have n:=Qu.mp nd;have K:=Qu.mp n.2.1;have i:=h.put (x:=x) (b:=Jc) r (λo0=>⟨⟨Qu.mpr ⟨n.1,K.2.1,λa T b R=>n.2.2 a T b<|Qe _ R⟩,λa T=>(h.own x d e).2 a (sub a T)⟩,λy W a T=>h.sep x d e y W a<|sub a T⟩)
  (λy g W q a T R=>h.sep y g q x (λz=>W z.symm) a T<|sub a R) (λa T=>h.src x a<|sub a T) (λa T R=>(h.pend a T).2 x (sub a R)) (λw q=>by have:=h.pin x w q;obtain rfl:=sj<|X.symm.trans this;rfl)
 rw[Rho.put_self _ X] at i;refine⟨i,⟨K.1,λa T=>(h.own x d e).2 a (s a T),λa T y W=> ?_,λa T R=>(h.pend a T).2 x (s a R)⟩⟩;by_cases q:y=x
 ·subst q;rw[c9] at W
  rcases Qr.mp W with q|q
  ·exact n.2.2 a q a (Qk _ T) rfl
  ·exact K.2.2 a T a q rfl
 ·rw[cr q] at W;exact h.sep x d e y q a (s a T) W
theorem Inv.fresh(h:Inv N S P Δ ρ σ fp)(p:PartOK σ fp t F)(e:t=Jb):MOK N P fp F:=
 ⟨(p.own e).1,λa T=>h.new0<|(p.own e).2 a T,λa T y W=>(by obtain⟨l,q⟩:=h.env.dom y a W;exact ns<|((p.own e).2 a T).symm.trans q),λa T b=>(by obtain⟨⟨l,q⟩,_⟩:=h.pend a T;exact ns<|((p.own e).2 a b).symm.trans q)⟩
end
section
variable(G:Gx)(cv:Cl)
def MDOK(e:E):Prop:=∀ (N:PH) (S:DSrc) (P:List Jg) (Δ:DRho) (ρ:Rho) (fp:String->List Jg) (σ:PH) (Q:D->DRho->Prop) (r:Post) (X:XPost),Inv N S P Δ ρ σ fp->dwm G (aR cv) e Δ Q->
 (∀d H f v σ' F,Q d H->Inv N S P H ρ σ' f->RdF σ' d v F->MOK N P f F->Ag P σ σ'->r v σ')->we G cv e ρ σ r X
def MDOKs(es:List E):Prop:=∀ (N:PH) (S:DSrc) (P:List Jg) (Δ:DRho) (ρ:Rho) (fp:String->List Jg) (σ:PH) (Q:List D->DRho->Prop) (r:List PV->PH->Prop) (X:XPost),Inv N S P Δ ρ σ fp->dwms G (aR cv) es Δ Q->
 (∀s H f v σ' F,Q s H->Inv N S P H ρ σ' f->ArgsR σ' (s.map λd=>(d,Jc)) v F->MOK N P f F.flatten->Ag P σ σ'->r v σ')->wes G cv es ρ σ r X
end
section
variable{G:Gx}{cv:Cl}
theorem bT(O:DOK G cv e){S:DSrc}{fp:String->List Jg}{Q:D->DRho->Prop}(i:Inv N S P Δ ρ σ fp)
  (h:dwe G (aR cv) e Δ (λd t=>t=Jb/\Q d Δ) λo0 o0=>False)(k:∀d H f v σ' F,Q d H->Inv N S P H ρ σ' f->RdF σ' d v F->MOK N P f F->Ag P σ σ'->Q' v σ'):we G cv e ρ σ Q' X:=
 O Δ ρ fp σ _ _ Q' X i.env h (λd t v σ' F q r=>k d Δ fp v σ' F q.2 (i.ext r.ext) r.rd (i.fresh r.part q.1)<|i.agP r.ext) λo0 o0 o0 o0 o0 q o0=>q.elim
theorem Aq:MDOK G cv (.loc x):=λN S P Δ ρ fp σ Q t X i h k=>by
 obtain⟨⟨d,b⟩,e,h⟩:=ey (show dOE (λp=>cond p.1.atom (Q p.1 Δ)<|p.2=Jc/\Q p.1 (Δ.put x (.hole,Jc))) (Δ.get x) from h);obtain⟨v,g,r⟩:=i.env.at_ x d b e;show oV _ (ρ.get x);rw[g];show t v σ
 induction a:d.atom with
 |true=>
  simp only[a,cond_true] at h;refine k d Δ fp v σ [] h i ?_ .nil .refl;rw[r.atom a] at r;exact r
 |false=>
  simp only[a,cond_false] at h;obtain⟨rfl,h⟩:=h;obtain⟨w,m⟩:=i.move (d':= .hole) (A:=[]) (B:=[]) (F:=fp x) e g rfl (by rw[QH,KB]);exact k d _ _ v σ (fp x) h w r m .refl
theorem jy(h:locOf a=Ja x):a= .loc x:=by
 induction a using E.casesOn with
 |loc y=>obtain rfl:=sj h;rfl
 |_=>first|exact bnx h|exact onx h|cases h
theorem Af(T:MDOKs G cv l):MDOK G cv (.tup l):=λN S P Δ ρ fp σ Q t X i h k=>
 T N S P Δ ρ fp σ _ _ X i h λs H f v σ' F q w r m ag=>by
  have K:RdFs σ' s v F.flatten:=by
   clear q m w ag h T k
   induction s generalizing v F with
   |nil=>cases r;exact⟨rfl,rfl⟩
   |cons d s W=>cases r with|cons B M y u=>exact⟨_,_,_,_,rfl,rfl,B,W _ _ u⟩
  exact k _ _ _ _ _ _ q.2 w ⟨v,rfl,by rw[K.len];exact q.1,K⟩ m ag
theorem ArgsR.lens{ds:List (D×Bool)}{vs:List PV}{F:List (List Jg)}(h:ArgsR σ ds vs F):vs.length=ds.length/\F.length=ds.length:=by
 induction h with
 |nil=>exact⟨rfl,rfl⟩
 |cons r p q h i=>exact⟨Ud (· +1) i.1,Ud (· +1) i.2⟩
theorem Inv.called{S:DSrc}{fp:String->List Jg}(i:Inv N S P Δ ρ σ fp)(m:MOK N P fp M)(Z:∀a∈M,∃l:MO,σ a=Ja l.1)(k:jw M σ σ'):
  Inv N S P Δ ρ σ' fp/\Ag P σ σ':=by
 have ag:∀F:List Jg,(∀a∈F,(∃l:MO,σ a=Ja l.1)/\a∉M)->Ag F σ σ':=λF J=>⟨λa h=>by
   obtain⟨⟨l,e⟩,c⟩:=J a h;exact(k a _ e c).trans e.symm,λa o e n=>k a o e λq=>by
   obtain⟨l,A⟩:=Z a q;obtain rfl:=sj (e.symm.trans A);exact ft (l.2.symm.trans n)⟩
 have g:∀x,Ag (fp x) σ σ':=λx=>ag _ λa h=>⟨i.env.dom x a h,λq=>m.out a q x h⟩
 have agP:Ag P σ σ':=ag _ λa h=>⟨(i.pend a h).1,m.pend a h⟩
 refine⟨⟨⟨λx d b e=> ?_,λx a h=> ?_,i.env.keys⟩,i.sep,i.own,i.src,λa o e=> ?_,λa h=>⟨?_,(i.pend a h).2⟩,i.newS,i.pin⟩,agP⟩
 ·obtain⟨v,E,p⟩:=i.env.at_ x d b e;exact⟨v,E,p.ag<|g x⟩
 ·obtain⟨l,e⟩:=i.env.dom x a h;exact⟨l,((g x).at_ a h).trans e⟩
 ·refine k a o (i.kept a o e) λC=> ?_;exact ns<|(m.own a C).symm.trans e
 ·obtain⟨l,e⟩:=(i.pend a h).1;exact⟨l,(agP.at_ a h).trans e⟩
theorem yc(V:MDOK G cv e)(A:MDOKs G cv es):MDOKs G cv (e::es):=λN S P Δ ρ fp σ Q t X i h k=>
 V N S P Δ ρ fp σ _ _ X i h λd u W v j F Y w B m r=>
  A N S (F++P) u ρ W j _ _ X ⟨w.env,w.sep,w.own,w.src,w.kept,λa T=>by
   rcases Qr.mp T with T|T
   ·exact⟨B.dom a T,m.out a T⟩
   ·exact w.pend a T,w.newS,w.pin⟩ Y λz J H I O s K l c M g=>by
  have U:Disj F s.flatten:=λa T R=>M.pend a (Qk _ T) R;refine k _ J H _ O (F::s) K (l.weak λa T=>Qe _ T) (.cons (B.ag g.left) (λo0=>m.nd) (λp D o0 a T R=> ?_) c) ⟨?_,?_,?_,?_⟩<|r.trans g.right
  ·exact U a T<|List.mem_flatten.mpr ⟨p.2,(Kz D).2,R⟩
  ·exact Qu.mpr ⟨m.nd,M.nd,λa T b R q=>U a T<|q▸R⟩
  ·intro a T
   rcases Qr.mp T with T|T
   ·exact m.own a T
   ·exact M.own a T
  ·intro a T y x
   rcases Qr.mp T with T|T
   ·exact(l.pend a<|Qk _ T).2 y x
   ·exact M.out a T y x
  ·intro a T f
   rcases Qr.mp f with f|f
   ·exact m.pend a T f
   ·exact M.pend a (Qe _ T) f
mutual
theorem p9:∀e:E,MDOK G cv e
 | .loc _=>Aq
 | .sub .. =>λo0 o0 o0 o0 o0 o0 o0 o0 o0 o0 i h k=>bT (bk _) i h k
 | .tup l=>Af<|mx l
 | .call .. =>λo0 o0 o0 o0 o0 o0 o0 o0 o0 o0 i h k=>bT (bk _) i h k
 | .none=>λo0 o0 o0 o0 o0 o0 o0 o0 o0 o0 i h k=>bT (bk _) i h k
 | .bool _=>λo0 o0 o0 o0 o0 o0 o0 o0 o0 o0 i h k=>bT (bk _) i h k
 | .int _=>λo0 o0 o0 o0 o0 o0 o0 o0 o0 o0 i h k=>bT (bk _) i h k
 | .str _=>λo0 o0 o0 o0 o0 o0 o0 o0 o0 o0 i h k=>bT (bk _) i h k
 | .glob _=>λo0 o0 o0 o0 o0 o0 o0 o0 o0 o0 i h k=>bT (bk _) i h k
 | .bin .. =>λo0 o0 o0 o0 o0 o0 o0 o0 o0 o0 i h k=>bT (bk _) i h k
 | .not_ _=>λo0 o0 o0 o0 o0 o0 o0 o0 o0 o0 i h k=>bT (bk _) i h k
 | .and_ .. =>λo0 o0 o0 o0 o0 o0 o0 o0 o0 o0 i h k=>bT (bk _) i h k
 | .or_ .. =>λo0 o0 o0 o0 o0 o0 o0 o0 o0 o0 i h k=>bT (bk _) i h k
 | .isNone _=>λo0 o0 o0 o0 o0 o0 o0 o0 o0 o0 i h k=>bT (bk _) i h k
 | .notNone _=>λo0 o0 o0 o0 o0 o0 o0 o0 o0 o0 i h k=>bT (bk _) i h k
 | .cmp .. =>λo0 o0 o0 o0 o0 o0 o0 o0 o0 o0 i h k=>bT (bk _) i h k
 | .cmp2 .. =>λo0 o0 o0 o0 o0 o0 o0 o0 o0 o0 i h k=>bT (bk _) i h k
 | .list _=>λo0 o0 o0 o0 o0 o0 o0 o0 o0 o0 i h k=>bT (bk _) i h k
 | .upto .. =>λo0 o0 o0 o0 o0 o0 o0 o0 o0 o0 i h k=>bT (bk _) i h k
 | .from_ .. =>λo0 o0 o0 o0 o0 o0 o0 o0 o0 o0 i h k=>bT (bk _) i h k
 | .comp .. =>λo0 o0 o0 o0 o0 o0 o0 o0 o0 o0 i h k=>bT (bk _) i h k
 | .compIf .. =>λo0 o0 o0 o0 o0 o0 o0 o0 o0 o0 i h k=>bT (bk _) i h k
 | .bi .. =>λo0 o0 o0 o0 o0 o0 o0 o0 o0 o0 i h k=>bT (bk _) i h k
 | .isi .. =>λo0 o0 o0 o0 o0 o0 o0 o0 o0 o0 i h k=>bT (bk _) i h k
 | .meth .. =>λo0 o0 o0 o0 o0 o0 o0 o0 o0 o0 i h k=>bT (bk _) i h k
 | .dict0=>λo0 o0 o0 o0 o0 o0 o0 o0 o0 o0 i h k=>bT (bk _) i h k
 | .get .. =>λo0 o0 o0 o0 o0 o0 o0 o0 o0 o0 i h k=>bT (bk _) i h k
 | .sd .. =>λo0 o0 o0 o0 o0 o0 o0 o0 o0 o0 i h k=>bT (bk _) i h k
 | .mcall .. =>λo0 o0 o0 o0 o0 o0 o0 o0 o0 o0 i h k=>bT (bk _) i h k
 | .attr .. =>λo0 o0 o0 o0 o0 o0 o0 o0 o0 o0 i h k=>bT (bk _) i h k
theorem mx:∀es:List E,MDOKs G cv es
 |[]=>λN S P Δ ρ fp σ Q Q' X i h k=>k [] Δ fp [] σ [] h i .nil .nil .refl
 |e::es=>yc (p9 e)<|mx es
end
end
structure Zip(σ:PH)(dx:D)(vx:PV)(A Fn B:List Jg)(ps:List D)(dn:D)(vn:PV):Prop where
 rd:RdF σ dn vn Fn
 da:∀a∈A,∃l:MO,σ a=Ja l.1
 db:∀a∈B,∃l:MO,σ a=Ja l.1
 upd:∀ (σ':PH) (f:D->Option D) (dn':D) (Fn':List Jg),Ag A σ σ'->Ag B σ σ'->RdF σ' dn' vn Fn'->f dn=Ja dn'->∃dx',updp ps f dx=Ja dx'/\RdF σ' dx' vx (A++(Fn'++B))
theorem Zip.ext{A Fn B:List Jg}(z:Zip σ g L A Fn B ps n v)(x:Ext σ σ1):Zip σ1 g L A Fn B ps n v:=
 ⟨z.rd.ext x,λa h=>by obtain⟨l,e⟩:=z.da a h;exact⟨l,x a _ e⟩,λa h=>by obtain⟨l,e⟩:=z.db a h;exact⟨l,x a _ e⟩,λX f d F V b r e=>z.upd X f d F ((Ag.of_ext x z.da).trans V) ((Ag.of_ext x z.db).trans b) r e⟩
theorem Zip.here{d:D}(r:RdF σ d v F):Zip σ d v [] F [] [] d v:=
 ⟨r,λa h=>(bQ h),λa h=>(bQ h),λX f n A o0 o0 r e=>⟨n,e,by rw[KB,QH];exact r⟩⟩
theorem jL:∀ (ps:List D) (i:D) (f:D->Option D),updp (ps++[i]) f=updp ps (dset1 i f)
 |[]=>λi f=>rfl
 |p::ps=>λi f=>by
  show dset1 p (updp (ps++[i]) f)=dset1 p (updp ps<|dset1 i f);rw[jL ps i f]
inductive ZipS(σ:PH)(dx:D)(vx:PV)(T:List Jg)(qs:List D)(d:D)(W:PV->Prop):Prop
 |mk (p:PV) (A' Fj B':List Jg) (e:W p) (e4:T=A'++(Fj++B')) (z:Zip σ dx vx A' Fj B' qs d p):ZipS σ dx vx T qs d W
theorem Zip.obj{o:MO}(z:Zip σ u v A (a::(Q++(j++O))) B ps n (.ref a)){i d:D}(e:σ a=Ja o.1)(J:RdF σ d p j)
  (q:∀b∈Q++(j++O),∃l:MO,σ b=Ja l.1)
  (W:∀ (σ':PH) (f:D->Option D) (dn':D) (F:List Jg),Ag Q σ σ'->Ag O σ σ'->σ' a=Ja o.1->RdF σ' dn' p F->f d=Ja dn'->∃w,dset1 i f n=Ja w/\RdF σ' w (.ref a) (a::(Q++(F++O)))):
  Zip σ u v (A++(a::Q)) j (O++B) (ps++[i]) d p:=by
 refine⟨J,λb h=> ?_,λb h=> ?_,λσ' f dn' F g T y R=> ?_⟩
 ·rcases Qr.mp h with h|h
  ·exact z.da b h
  ·cases h with
   |head=>exact⟨o,e⟩
   |tail _ h=>exact q b<|Qk _ h
 ·rcases Qr.mp h with h|h
  ·exact q b<|Qe _ (Qe _ h)
  ·exact z.db b h
 ·obtain⟨w,k,r⟩:=W σ' f dn' F g.right.tail T.left ((g.at_ a<|Qe _ (.head _)).trans e) y R;obtain⟨x,Y,X⟩:=z.upd σ' (dset1 i f) w (a::(Q++(F++O))) g.left T.right r k;refine⟨x,by rw[jL];exact Y,?_⟩;have:A++(a::(Q++(F++O))++B)=(A++(a::Q))++(F++(O++B)):=by simp
  rw[<-this];exact X
theorem Zip.key{A Fn B:List Jg}(z:Zip σ g L A Fn B ps (.dict ks l) V){d:D}(Z:keyD i=Ja k)(h:dlook ks l k=Ja d):
  ZipS σ g L (A++(Fn++B)) (ps++[i]) d λp=>X2 λa v=>A3 (V= .ref a) (σ a=Ja (.dict ks v)) (klook ks v k=Ja p):=by
 obtain⟨a,v,G,rfl,e,T,rfl,r⟩:=z.rd;obtain⟨j,H,q⟩:=Qq.mp h;obtain⟨p,Q,O,Y,I,rfl,J,m⟩:=r.split j d q;refine⟨p,A++(a::Q),Y,O++B,⟨a,v,rfl,e,Qq.mpr ⟨j,H,I⟩⟩,by simp,z.obj (o:=⟨.dict ks v,rfl⟩) e J r.dom λX f n F c b s U w=> ?_⟩;have M:=m X n p F c b U;rw[set_same I] at M;refine⟨.dict ks<|l.set j n,?_,a,v,_,rfl,s,T,rfl,M⟩;show((keyD i).bind λk=>(kidx ks k).bind λj=>(l[j]?).bind λx=>(f x).map λy=>D.dict ks<|l.set j y)=_;rw[Z];show((kidx ks k).bind λj=>(l[j]?).bind λx=>(f x).map λy=>D.dict ks<|l.set j y)=_;rw[H];show((l[j]?).bind λx=>(f x).map λy=>D.dict ks<|l.set j y)=_;rw[q];show((f d).map λy=>D.dict ks<|l.set j y)=_;rw[w];rfl
theorem Zip.sub{S:D}{A Fn B:List Jg}(z:Zip σ S L A Fn B ps Z u){d:D}(N:RdF σ i C Fi)(hs:isScr Z=Jd)(h:dsub Z i=Ja d):
  ZipS σ S L (A++(Fn++B)) (ps++[i]) d λp=>∀Q:PV->Prop,Q p->wsub σ u C Q:=by
 induction Z using D.casesOn with
 |list l=>
  induction i using D.casesOn with
  |int n=>
   obtain⟨rfl,o0⟩:=N;obtain⟨a,v,G,rfl,e,T,rfl,r⟩:=z.rd;obtain⟨j,H,q⟩:=Qq.mp (show((place l.length n).bind λj=>l[j]?)=Ja d from h);obtain⟨p,W,O,Y,M,rfl,J,m⟩:=r.split j d q;have K:psub σ (.ref a) (.int n)=Ja p:=by
    show psubO (.int n) (σ a)=_;rw[e];show((place v.length n).bind λj=>v[j]?)=Ja p;rw[r.len,H];exact M
   have hq:plen σ (.ref a)=Ja v.length:=by
    show(match σ a with
     |some (.list l)=>Ja l.length
     |_=>Jb)=_
    rw[e]
   refine⟨p,A++(a::W),Y,O++B,ib hq T K,by simp,z.obj (o:=⟨.list v,rfl⟩) e J r.dom λX f I F V g ea U c=> ?_⟩;have w:=m X I p F V g U;rw[set_same M] at w;refine⟨.list<|l.set j I,?_,a,v,_,rfl,ea,T,rfl,w⟩;show((place l.length n).bind λj=>(l[j]?).bind λx=>(f x).map λy=>D.list<|l.set j y)=_;rw[H];show((l[j]?).bind λx=>(f x).map λy=>D.list<|l.set j y)=_;rw[q];show((f d).map λy=>D.list<|l.set j y)=_;rw[c];rfl
  |_=>first|exact bnx h|exact onx h|cases h
 |tup l=>
  induction i using D.casesOn with
  |int n=>
   obtain⟨rfl,o0⟩:=N;obtain⟨v,rfl,T,r⟩:=z.rd;obtain⟨j,H,q⟩:=Qq.mp (show((place l.length n).bind λj=>l[j]?)=Ja d from h);obtain⟨p,W,O,Y,M,rfl,J,m⟩:=r.split j d q;have K:psub σ (.tup v) (.int n)=Ja p:=by
    show((place v.length n).bind λj=>v[j]?)=Ja p;rw[r.len,H];exact M
   refine⟨p,A++W,Y,O++B,ib (n:=v.length) rfl T K,by simp,⟨J,λb R=> ?_,λb R=> ?_,λX f I F V g U c=> ?_⟩⟩
   ·rcases Qr.mp R with R|R
    ·exact z.da b R
    ·exact r.dom b<|Qk _ R
   ·rcases Qr.mp R with R|R
    ·exact r.dom b<|Qe _ (Qe _ R)
    ·exact z.db b R
   ·have w:=m X I p F V.right g.left U;rw[set_same M] at w;obtain⟨t,s,u2⟩:=z.upd X (dset1 (.int n) f) (.tup (l.set j I)) (W++(F++O)) V.left g.right ⟨v,rfl,T,w⟩ (by
     show((place l.length n).bind λj=>(l[j]?).bind λx=>(f x).map λy=>D.tup (l.set j y))=_;rw[H];show((l[j]?).bind λx=>(f x).map λy=>D.tup (l.set j y))=_;rw[q];show((f d).map λy=>D.tup (l.set j y))=_;rw[c];rfl)
    refine⟨t,by rw[jL];exact s,?_⟩;have:A++((W++(F++O))++B)=(A++W)++(F++(O++B)):=by simp
    rw[<-this];exact u2
  |_=>first|exact bnx h|exact onx h|cases h
 |scr l=>exact tf hs
 |dict ks l=>
  obtain⟨k,E,h2⟩:=Qq.mp (show((keyD i).bind λk=>dlook ks l k)=Ja d from h);obtain⟨p,A',Y,B',⟨a,v,P,e1,e2⟩,e3,z'⟩:=z.key E h2;subst P;exact⟨p,A',Y,B',n9 e1 (nb N E) e2,e3,z'⟩
 |_=>first|exact bnx h|exact onx h|cases h
section
variable{G:Gx}{cv:Cl}
theorem kN{L:DRho}{T:Rho}{f:String->List Jg}(env:EnvE σ L T f):∀ (o:E) (Q:String->List D->D->Prop) (Q':Post),dpath G (aR cv) o L Q (λo0 o0=>False)->
  (∀x ps Z σ' I g n A Fn B,Q x ps Z->Ext σ σ'->L.get x=Ja (g,Jc)->T.get x=Ja n->f x=A++(Fn++B)->Zip σ' g n A Fn B ps Z I->Q' I σ')->we G cv o T σ Q' X
 |o,Q,Q',h,k=>by
  induction o using E.casesOn with
  |loc x=>
   obtain⟨⟨d,b⟩,e,N,Y⟩:=ey (show dOE (λp=>p.2=Jc/\Q x [] p.1) (L.get x) from h);cases N;obtain⟨v,W,r⟩:=env.at_ x d Jc e;show oV (λv=>Q' v σ) (T.get x);rw[W];exact k x [] d σ v d v [] (f x) [] Y (.refl σ) e W (by rw[QH,KB]) (.here r)
  |sub a i=>
   refine kN env a _ _ h λx ps Z m I g n A Fn B h M e W F z=> ?_;refine bk i L T f m _ _ _ X (env.ext M) h (λs t C O R h V=> ?_) λo0 o0 o0 o0 o0 q o0=>q.elim;obtain⟨N,Y⟩:=h;obtain⟨d,w,Y⟩:=gO Y;obtain⟨p,P,y,K,j,c,S⟩:=(z.ext V.ext).sub V.rd N w;exact j _<|k x _ d O p g n P y K Y (M.trans V.ext) e W (F.trans c) S
  |_=>exact h.elim
theorem DRho.put_put:∀L:DRho,(L.put x u).put x v=L.put x v
 |[]=>rfl
 |(y,o)::r=>by
  by_cases h:y=x
  ·simp only[DRho.put_if,h,if_true]
  ·simp only[DRho.put_if,h,if_false,DRho.put_put r]
theorem l6{f:String->List Jg}{x:String}{F G:List Jg}:fset (fset f x F) x G=fset f x G:=by
 funext y;by_cases h:y=x
 ·subst h;rw[c9,c9]
 ·rw[cr h,cr h,cr h]
theorem Inv.upd{N σ:PH}{S:DSrc}{L:DRho}{k:Rho}{f:String->List Jg}(i:Inv N S P L k σ f)(e:L.get x=Ja (g,Jc))(r:k.get x=Ja M)
  (J:f x=A++((a::Z)++B))(z:Zip σ g M A (a::Z) B ps dn (.ref a)){G':List Jg}(r':∀σ',Ag G' σ σ'->σ' a=Ja o'->RdF σ' dn' (.ref a) (a::G'))(T:G'.Nodup)(sub:∀b∈G',b∈Z\/b∈Fv)(m:MOK N [] f Fv):
  ∃n,updp ps (λo0=>Ja dn') g=Ja n/\Inv N S [] (L.put x (n,Jc)) k (σ.set a o') (fset f x<|A++((a::G')++B)):=by
 obtain⟨K,O⟩:=i.own x g e;have l:a∈f x:=by rw[J];exact Qe _<|.head _
 rw[J] at K;have Y:=Qu.mp K;have p:=Qx.mp Y.2.1;have n3:=Qu.mp p.2;have v:a∉A:=λq=>Y.2.2 a q a (.head _) rfl;have X:a∉B:=λq=>p.1 (Qe _ q);have Q:a∉Z:=λq=>p.1 (Qk _ q);have V:a∉Fv:=λq=>m.out a q x l;have E:a∉G':=λq=>(sub a q).elim Q V;obtain⟨la,ea⟩:=i.env.dom x a l;have ag:∀F:List Jg,a∉F->Ag F σ (σ.set a o'):=λF I=>⟨λb R=>PH.set_ne _ _ λq=>I (q▸R),λb o eo s=>by
  rw[PH.set_ne]
  ·exact eo
  ·rintro rfl;obtain rfl:=sj (ea.symm.trans eo);exact ft (la.2.symm.trans s)⟩
 obtain⟨n,u1,u2⟩:=z.upd (σ.set a o') (λo0=>Ja dn') dn' (a::G') (ag A v) (ag B X) (r' _ (ag G' E)<|PH.set_same _ _ _) rfl;refine⟨n,u1,?_⟩;obtain⟨i1,m1⟩:=i.move (d':= .hole) (A:=[]) (B:=[]) (F:=f x) e r rfl (by rw[QH,KB]);obtain⟨i2,o0⟩:=i1.called m1 (i.env.dom x) (σ':=σ.set a o') λb o eb I=>by
  rw[PH.set_ne]
  ·exact eb
  ·rintro rfl;exact I l
 have j:∀b∈A++((a::G')++B),b∈f x\/b∈Fv:=λb R=>by
  rw[J]
  rcases Qr.mp R with q|q
  ·exact .inl<|Qk _ q
  ·rcases Qr.mp q with q|q
   ·cases q with
    |head=>exact .inl<|Qe _ (.head _)
    |tail _ q=>exact(sub b q).imp_left λq=>Qe _<|.tail _ (Qk _ q)
   ·exact .inl<|Qe _ (.tail _<|Qe _ q)
 have H:∀b∈Fv,b∉A/\b∉B:=λb R=>⟨λq=>m.out b R x<|by rw[J];exact Qk _ q,λq=>m.out b R x<|by rw[J];exact Qe _<|.tail _ (Qe _ q)⟩
 have u:∀y,y≠x->∀b∈A++((a::G')++B),b∉f y:=λy W b R q=>by
  rcases j b R with w|w
  ·exact i.sep x g e y W b w q
  ·exact m.out b w y q
 have t:(A++((a::G')++B)).Nodup:=by
  refine Qu.mpr ⟨Y.1,Qx.mpr ⟨λq=>(Qr.mp q).elim E X,Qu.mpr ⟨T,n3.2.1,λb R c C q=> ?_⟩⟩,λb R c C q=> ?_⟩
  ·subst q
   rcases sub b R with w|w
   ·exact n3.2.2 b w b C rfl
   ·exact(H b w).2 C
  ·subst q
   rcases Qr.mp (show b∈(a::G')++B from C) with w|w
   ·cases w with
    |head=>exact v R
    |tail _ w=>
     rcases sub b w with w|w
     ·exact Y.2.2 b R b (.tail _<|Qk _ w) rfl
     ·exact(H b w).1 R
   ·exact Y.2.2 b R b (.tail _<|Qe _ w) rfl
 have U:=(i2.weak (P':=[]) λa h=>(bQ h)).put (x:=x) (b:=Jc) u2 (λo0=>⟨⟨t,λb R=>(j b R).elim (O b) (m.own b)⟩,λy W b R q=>by
   rw[cr W] at q;exact u y W b R q⟩) (λy d W o0 b R q=>by rw[cr W] at R;exact u y W b q R) (λb R=>(j b R).elim (i.src x b) λq=>i.newS b (m.own b q)) (λb R=>(bQ R)) (λw q=>by have:=i.pin x w q;obtain rfl:=sj (r.symm.trans this);rfl)
 rw[DRho.put_put,Rho.put_self _ r,l6] at U;exact U
end
structure RetOK(N:PH)(S:DSrc)(σ':PH)(d:D)(b:Bool)(v:PV)(F:List Jg):Prop where
 rd:RdF σ' d v F
 kept:Ext N σ'
 own:b=Jc->F.Nodup/\∀a∈F,N a=Jb
 src:∀a∈F,S a
structure QR(N:PH)(S:DSrc)(Q:bX)(Q':SPost):Prop where
 next:∀Δ ρ σ fp,Q .next Δ->Inv N S [] Δ ρ σ fp->Q' .next ρ σ
 ret:∀d b Δ v ρ σ F,Q (.ret d b) Δ->RetOK N S σ d b v F->Q' (.ret v) ρ σ
def XR(N:PH)(S:DSrc)(X:DSX)(H:gu):Prop:=∀c d ws Δ ρ σ fp F,X c d Δ->Inv N S [] Δ ρ σ fp->RdFs σ d ws F->MOK N [] fp F->H ⟨c,ws⟩ ρ σ
section
variable{N σ σ':PH}{S:DSrc}{P:List Jg}{Δ:DRho}{ρ:Rho}{fp:String->List Jg}
theorem Inv.less(h:Inv X S P Δ ρ σ fp)(x:Ext N X)(q:∀a,N a=Jb->S a):Inv N S P Δ ρ σ fp:=
 ⟨h.env,h.sep,λn d e=>⟨(h.own n d e).1,λa T=>x.new<|(h.own n d e).2 a T⟩,h.src,x.trans h.kept,h.pend,q,h.pin⟩
theorem RetOK.less{d:D}(h:RetOK X S σ d b v F)(x:Ext N X):RetOK N S σ d b v F:=
 ⟨h.rd,x.trans h.kept,λe=>⟨(h.own e).1,λa T=>x.new<|(h.own e).2 a T⟩,h.src⟩
theorem vO{e:D}(h:(Δ.frz t).get y=Ja (e,Jc)):Δ.get y=Ja (e,Jc)/\∀xs,t=Ja xs->y∈xs->e.atom=Jc:=by
 induction t with
 |none=>exact⟨h,λxs q=>(ns q)⟩
 |some xs=>
  rw[uU,DRho.get_map (λx q=>if xs.contains x then(q.1,q.1.atom&&q.2) else q)] at h;obtain⟨⟨d,c⟩,T,w⟩:=Qt.mp h;by_cases hx:xs.contains y=Jc
  ·rw[Ua hx] at w
   induction C:d.atom with
   |false=>simp only[C,Bool.false_and] at w;cases w
   |true=>simp only[C,Ym] at w;cases w;exact⟨T,λo0 o0 o0=>C⟩
  ·rw[Y9 hx] at w;cases w;refine⟨T,λs q W=> ?_⟩;obtain rfl:=sj q;exact absurd (by simpa using W) hx
theorem Inv.away(h:Inv N S P Δ ρ σ fp)(p:PartOK σ fp t F)(q:(Δ.frz t).get y=Ja (e,Jc)):Disj (fp y) F:=λa T b=>by
 obtain⟨Y,Z⟩:=vO q;obtain⟨l,c⟩:=h.env.dom y a T
 induction t with
 |none=>have:=(p.own rfl).2 a b;exact sn<|c.symm.trans this
 |some x=>
  rcases p.al x rfl a b with w|⟨z,R,w⟩
  ·exact sn<|c.symm.trans w
  ·by_cases V:z=y
   ·subst V;obtain⟨v,o0,r⟩:=h.env.at_ z e Jc Y;rw[r.atom (Z x rfl R)] at T;cases T
   ·exact h.sep y e Y z V a T w
theorem Inv.srcP(h:Inv N S P Δ ρ σ fp)(p:PartOK σ fp t F):∀a∈F,S a:=λa T=>by
 induction t with
 |none=>exact h.newS a<|h.new0 ((p.own rfl).2 a T)
 |some x=>
  rcases p.al x rfl a T with w|⟨z,o0,w⟩
  ·exact h.newS a<|h.new0 w
  ·exact h.src z a w
theorem Inv.puts:∀ (xs:List String) (ds:List D) (vs:List PV) (F:List Jg) (Δ:DRho) (ρ:Rho) (fp:String->List Jg),Inv N S [] Δ ρ σ fp->ds.length=xs.length->RdFs σ ds vs F->(b=Jc->MOK N [] fp F)->
  (∀y e,Δ.get y=Ja (e,Jc)->Disj (fp y) F)->(∀a∈F,S a)->(∀x∈xs,S.pin x=Jb)->vs.length=xs.length/\∃f,Inv N S [] (Δ.puts xs ds b) (ρ.puts xs vs) σ f:=by
 intro xs
 induction xs with
 |nil=>
  intro ds vs F Δ ρ fp h l r _ _ _ _
  induction ds using List.casesOn with
  |cons=>cases l
  |nil=>obtain⟨rfl,rfl⟩:=r;exact⟨rfl,fp,h⟩
 |cons x xs A=>
  intro ds vs F Δ ρ fp h l V R o s n
  induction ds using List.casesOn with
  |nil=>cases l
  |cons d ds=>
   obtain⟨p,I,X,t,L,Z,v,M⟩:=V;subst L Z;have i:=h.put (x:=x) (b:=b) v (λq=>⟨⟨(Qu.mp (R q).nd).1,λa T=>(R q).own a (Qk _ T)⟩,λy W a T=>(R q).out a (Qk _ T) y⟩)
    (λy e W q a T j=>o y e q a T<|Qk _ j) (λa T=>s a<|Qk _ T) (λa T=>(bQ T)) (λw q=>by exact ns<|(n x<|.head _).symm.trans q)
   have hx:∀e,(Δ.put x (d,b)).get x=Ja (e,Jc)->b=Jc:=λe q=>by
    have m:=DRho.get_mem _ q;rw[DRho.put_keys] at m;rw[DRho.get_put _ m] at q;cases q;rfl
   have J:b=Jc->Disj X t:=λq a T j=>(Qu.mp (R q).nd).2.2 a T a j rfl;obtain⟨U,f,E⟩:=A ds I t _ _ _ i (Nat.succ.inj l) M (λq=>⟨(Qu.mp (R q).nd).2.1,λa T=>(R q).own a (Qe _ T),λa T y W=>by
     by_cases Q:y=x
     ·subst Q;rw[c9] at W;exact J q a W T
     ·rw[cr Q] at W;exact(R q).out a (Qe _ T) y W,λa T=>(bQ T)⟩)
    (λy e q a T j=>by
     by_cases Q:y=x
     ·subst Q;rw[c9] at T;exact J (hx e q) a T j
     ·rw[cr Q] at T;rw[DRho.get_put_ne Q] at q;exact o y e q a T (Qe _ j)) (λa T=>s a (Qe _ T)) (λy W=>n y (.tail _ W))
   exact⟨Ud (· +1) U,f,E⟩
theorem Inv.bindT{tg:Tg}{d:D}(h:Inv N S [] Δ ρ σ fp)(r:RdF σ d v F)(e:eD tg d b Δ=Ja H)(R:b=Jc->MOK N [] fp F)(o:∀y e,Δ.get y=Ja (e,Jc)->Disj (fp y) F)(E:∀a∈F,S a)(n:∀x∈tg.names,S.pin x=Jb):
  ∃ρ' f,bindT tg v ρ=Ja ρ'/\Inv N S [] H ρ' σ f:=by
 induction tg with
 |name x=>
  obtain rfl:=sj e;exact⟨_,_,rfl,h.put r (λq=>⟨⟨(R q).nd,(R q).own⟩,λy o0 a T=>(R q).out a T y⟩) (λy e o0 q=>o y e q) E (λa T=>(bQ T)) λw q=>by exact ns<|(n x<|.head _).symm.trans q⟩
 |tup s=>
  induction d using D.casesOn with
  |tup z=>
   obtain⟨l,rfl,M,r⟩:=r;by_cases q:z.length=s.length
   ·have g:Ja (Δ.puts s z b)=Ja H:=by rw[<-e];exact(Ua q).symm
    obtain rfl:=sj g;obtain⟨p,f,Y⟩:=Inv.puts (b:=b) s z l F Δ ρ fp h q r R o E n;exact⟨_,f,Ua p,Y⟩
   ·have g:Jb=Ja H:=by rw[<-e];exact(Y9 q).symm
    exact ns g
  |_=>first|exact bnx e|exact onx e|cases e
end
def Pins(P:DSrc)(f:String->Bool):Prop:=∀x v,P.pin x=Ja v->f x=Jc
theorem Pins.off{P:DSrc}{f:String->Bool}(h:Pins P f)(hx:f x=Jd):P.pin x=Jb:=by
 induction e:P.pin x with
 |none=>rfl
 |some v=>exact tf<|(h x v e).symm.trans hx
theorem Pins.imp{f g:String->Bool}(h:Pins P f)(k:∀x,f x=Jc->g x=Jc):Pins P g:=λx v e=>k x<|h x v e
section
variable(G:Gx)(cv cu:Cl)
def SDOK(s:S):Prop:=∀ (N:PH) (P:DSrc) (Δ:DRho) (ρ:Rho) (fp:String->List Jg) (σ:PH) (Q:bX) (X:DSX) (r:SPost) (H:gu),Inv N P [] Δ ρ σ fp->Pins P (S.noas · s)->dws G (aR cv) (aR cu) s Δ Q X->
 QR N P Q r->XR N P X H->ws G cv cu s ρ σ r H
def SDOKs(s:List S):Prop:=∀ (N:PH) (P:DSrc) (Δ:DRho) (ρ:Rho) (fp:String->List Jg) (σ:PH) (Q:bX) (X:DSX) (r:SPost) (H:gu),Inv N P [] Δ ρ σ fp->Pins P (S.noass · s)->dwss G (aR cv) (aR cu) s Δ Q X->
 QR N P Q r->XR N P X H->wss G cv cu s ρ σ r H
end
section
variable{G:Gx}{cv cu:Cl}
theorem XR.ext{fp:String->List Jg}(h:XR N P X H)(i:Inv N P [] Δ ρ σ fp){ws:List PV}(q:X c ds Δ)(x:XOK σ σ' ds ws F):H ⟨c,ws⟩ ρ σ':=
 h c ds ws Δ ρ σ' fp F q (i.ext x.ext) x.rd ⟨x.nd,λa T=>i.new0<|x.own a T,λa T y W=>(by obtain⟨l,e⟩:=i.env.dom y a W;exact ns<|(x.own a T).symm.trans e),λa T=>(bQ T)⟩
theorem yp:SDOK G cv cu (.assign (.name x) e):=λN P Δ ρ fp σ Q X M H i p h q s=>
 bk e Δ ρ fp σ _ _ _ _ i.env h (λd t v O F h r=>q.next _ _ _ _ h (((i.ext r.ext).frz t).put r.rd (λb=>by
   have m:=i.fresh r.part (Kd.mp b);exact⟨⟨m.nd,m.own⟩,λy o0 a T=>m.out a T y⟩)
  (λy e o0 w=>i.away r.part w) (i.srcP r.part) (λa T=>(bQ T)) λw e=>by rw[p.off (show(!(Tg.name x).names.contains x)=Jd by simp[Tg.names])] at e;exact ns e)) λo0 o0 o0 o0 o0 w x=>s.ext i w x
theorem AR:SDOK G cv cu (.assign (.tup xs) e):=λN P Δ ρ fp σ Q X M K i p h q s=>
 ⟨h.1,bk e Δ ρ fp σ _ _ _ _ i.env h.2 (λd t v T F h r=>by
  obtain⟨H,L,h⟩:=gS h;obtain⟨O,f,m,n⟩:=((i.ext r.ext).frz t).bindT r.rd L (λb=>i.fresh r.part (Kd.mp b)) (λy e w=>i.away r.part w) (i.srcP r.part) (λy W=>p.off (show(!(Tg.tup xs).names.contains y)=Jd by simpa using W));rw[m];exact q.next _ _ _ _ h n) λo0 o0 o0 o0 o0 w x=>s.ext i w x⟩
theorem A7:SDOK G cv cu (.ret e):=λN P Δ ρ fp σ Q X M K i p h q s=>by
 rcases h with h|h
 ·exact p9 e N P [] Δ ρ fp σ _ _ _ i h λd H f v σ' F h n r m o0=>q.ret _ _ _ _ _ _ F h ⟨r,n.kept,λo0=>⟨m.nd,m.own⟩,λa T=>n.newS a<|m.own a T⟩
 ·exact bk e Δ ρ fp σ _ _ _ _ i.env h (λd t v O F h r=>q.ret _ _ _ _ _ _ F h ⟨r.rd,i.kept.trans r.ext,λb=>by
   have m:=i.fresh r.part (Kd.mp b);exact⟨m.nd,m.own⟩,i.srcP r.part⟩) λo0 o0 o0 o0 o0 w x=>s.ext i w x
theorem Br(R:SDOKs G cv cu b)(T:SDOKs G cv cu o):SDOK G cv cu (.if_ t b o):=λN P Δ ρ fp σ Q X M H i p h q s=>
 bk t Δ ρ fp σ _ _ _ _ i.env h (λd g v m F h r=>by
  obtain⟨c,rfl,h⟩:=eI h;rw[r.rd.1]
  induction c with
  |true=>exact R N P Δ ρ fp m Q X M H (i.ext r.ext) (p.imp λx e=>(Qg.mp (show(S.noass x b&&S.noass x o)=Jc from e)).1) h q s
  |false=>exact T N P Δ ρ fp m Q X M H (i.ext r.ext) (p.imp λx e=>(Qg.mp (show(S.noass x b&&S.noass x o)=Jc from e)).2) h q s) λo0 o0 o0 o0 o0 w x=>s.ext i w x
theorem qu:∀ {ds:List D} {ws:List PV} {F:List Jg},RdFs σ ds ws F->RdFs σ (ds.map λo0=> .hole) ws []
 |[],ws,F,r=>⟨r.1,rfl⟩
 |d::ds,ws,F,r=>by
  obtain⟨p,s,j,q,rfl,o0,o0,M⟩:=r;exact⟨p,s,[],[],rfl,rfl,rfl,qu M⟩
theorem wT{args:List E}:SDOK G cv cu (.raise c args):=λN P Δ ρ fp σ Q X t H i p h q s=>
 ⟨h.1,dc args Δ ρ fp σ _ _ _ _ i.env h.2 (λd v m b h x r=>by
  obtain⟨F,g,j⟩:=r.rds.take (G.flds c).length;exact s.ext i h ⟨qu g,x,.nil,λa T=>(bQ T)⟩) λo0 o0 o0 o0 o0 w x=>s.ext i w x⟩
theorem QR.fl{K:DRho->Prop}{K':Rho->PH->Prop}(q:QR N P Q Q')(k:∀Δ ρ σ fp,K Δ->Inv N P [] Δ ρ σ fp->K' ρ σ):QR N P (donFl K Q) (onFl K' Q'):=⟨k,q.ret⟩
theorem zR:SDOKs G cv cu []:=λN P Δ ρ fp σ Q X r H i p h q x=>q.next _ _ _ _ h i
theorem wG(E:SDOK G cv cu s)(n:SDOKs G cv cu r):SDOKs G cv cu (s::r):=λN P Δ ρ fp σ Q X t H i p h q O=>
 E N P Δ ρ fp σ _ X _ H i (p.imp λx e=>(Qg.mp (show(S.noas x s&&S.noass x r)=Jc from e)).1) h (q.fl λu j m f Y w=>n N P u j f m Q X t H w (p.imp λx e=>(Qg.mp (show(S.noas x s&&S.noass x r)=Jc from e)).2) Y q O) O
end
section
variable{G:Gx}{cv cu:Cl}
theorem MOK.one{fp:String->List Jg}(m:MOK N P fp F):MOK N [] fp F:=⟨m.nd,m.own,m.out,λa h=>(bQ h)⟩
theorem qC{ds:List D}{l:List PV}{F:List Jg}(r:RdFs σ ds l F){d:D}{Fv:List Jg}(S:RdF σ d v Fv)(x:F.Nodup)(V:Fv.Nodup)(J:Disj Fv F):
  ∃G',RdFs σ (ds.set j d) (l.set j v) G'/\G'.Nodup/\∀b∈G',b∈F\/b∈Fv:=by
 by_cases H:j<ds.length
 rotate_left
 ·rw[List.set_eq_of_length_le (Nat.le_of_not_lt H),List.set_eq_of_length_le (by rw[r.len];exact Nat.le_of_not_lt H)];exact⟨F,r,x,λb h=> .inl h⟩
 obtain⟨p,A,B,y,I,rfl,L,g⟩:=r.split j ds[j] (Qi H);have n:=Qu.mp x;have z:=Qu.mp n.2.1;refine⟨A++(Fv++B),g σ d v Fv .refl .refl S,Qu.mpr ⟨n.1,Qu.mpr ⟨V,z.2.1,λa T b h q=> ?_⟩,λa T b h q=> ?_⟩,λb h=> ?_⟩
 ·subst q;exact J a T<|Qe _ (Qe _ h)
 ·subst q
  rcases Qr.mp h with w|w
  ·exact J a w<|Qk _ T
  ·exact n.2.2 a T a (Qe _ w) rfl
 ·rcases Qr.mp h with w|w
  ·exact .inl<|Qk _ w
  ·rcases Qr.mp w with w|w
   ·exact .inr w
   ·exact .inl<|Qe _ (Qe _ w)
theorem RdFs.snoc(r:RdFs σ ds l F){d:D}(S:RdF σ d v Fv):RdFs σ (ds++[d]) (l++[v]) (F++Fv):=r.app ⟨v,[],Fv,[],rfl,(QH _).symm,S,rfl,rfl⟩
theorem tD{ks:List (List KA)}{l:List PV}{F:List Jg}(r:RdFs σ ds l F)(T:l.length<lim)(M:ks.length=l.length){d:D}{Fv:List Jg}(S:RdF σ d v Fv)(x:F.Nodup)(V:Fv.Nodup)(J:Disj Fv F):
  ∃G',(∀σ',Ag G' σ σ'->σ' a=Ja (kset ks l k v)->RdF σ' (dkset ks ds k d) (.ref a) (a::G'))/\G'.Nodup/\∀b∈G',b∈F\/b∈Fv:=by
 unfold kset dkset;cases kidx ks k with
 |some j=>
  obtain⟨G',Z,g,H⟩:=qC (j:=j) r S x V J;exact⟨G',λσ' ag e=>⟨a,_,G',rfl,e,by rw[Ww];exact⟨Kv T,M⟩,rfl,Z.ag ag⟩,g,H⟩
 |none=>
  refine⟨F++Fv,λσ' ag e=>⟨a,_,_,rfl,e,by rw[QG,QG,M];exact⟨T,rfl⟩,rfl,(r.snoc S).ag ag⟩,Qu.mpr ⟨x,V,λb h c C q=>J c C<|q▸h⟩,λb h=>Qr.mp h⟩
theorem lg(h:place n k=Ja j):j<n:=by
 unfold place at h;by_cases i:0<=k
 ·rw[Ua i] at h;by_cases E:k<n
  ·rw[Ua E] at h;obtain rfl:=sj h;exact(KT i).mpr E
  ·rw[Y9 E] at h;exact ns h
 ·rw[Y9 i] at h;by_cases E:0<=k+n
  ·rw[Ua E] at h;obtain rfl:=sj h;exact(KT E).mpr (zng i)
  ·rw[Y9 E] at h;exact ns h
theorem Ak:SDOK G cv cu (.setIdx o i e):=λN P Δ ρ fp σ Q X Q' X' iv pn h q xr=>
 p9 e N P [] Δ ρ fp σ _ _ _ iv h λd u M v ab F h i1 rv m o0=>
 kN i1.env o _ _ h λx ps dn R vn dx vx A Fn B h x2 ex ev J z=>
 bk i u ρ M R _ _ _ _ (i1.env.ext x2) h (λdi t vi p Fi h V=>by
  have L:=i1.ext<|x2.trans V.ext;have s:=z.ext V.ext;have nd:=(L.own x dx ex).1;rw[J] at nd;have U:=rv.ext<|x2.trans V.ext;have fin:∀ {I:D} {W:D} {f:PH} {C:String->List Jg},dput u x ps I (λy=>Q .next y)->updp ps (λo0=>Ja I) dx=Ja W->Inv N P [] (u.put x (W,Jc)) ρ f C->Q' .next ρ f:=λh Y Z=>by
   obtain⟨⟨H,b⟩,e1,h⟩:=ey h;rw[ex] at e1;cases e1;obtain⟨H,e2,h⟩:=gO h;obtain rfl:=sj<|Y.symm.trans e2;exact q.next _ _ _ _ h Z
  induction dn using D.casesOn with
  |list l=>
   obtain⟨n,rfl,h⟩:=ew h;obtain⟨j,hj,h⟩:=gA h;have hv:=V.rd.1;obtain⟨a,K,Gn,e3,ea,T,S,r⟩:=s.rd;subst e3 S hv;refine .inr ?_;show onO _ (p a);rw[ea];show oNat _ (place K.length n);rw[r.len,hj];refine⟨r.len▸T,?_⟩;have n2:=(Qx.mp (Qu.mp nd).2.1).2;obtain⟨G',g1,g,O⟩:=qC (j:=j) r U (Qu.mp n2).1 m.nd λb hb hg=>m.out b hb x (by rw[J];exact Qe _<|.tail _ (Qk _ hg));obtain⟨W,Y,Z⟩:=L.upd ex ev J s (dn':= .list (l.set j d)) (o':= .list (K.set j v)) (λaa ag e=>⟨a,_,G',rfl,e,by rw[Ww];exact T,rfl,g1.ag ag⟩) g O m.one;exact fin h Y Z
  |dict ks l=>
   obtain⟨a,K,Gn,e3,ea,T,S,r⟩:=s.rd;subst e3 S;refine .inl ?_;show onDO _ (p a);rw[ea];have c:K.length<lim:=by rw[r.len];exact h.1
   refine⟨c,sA V.rd h.2 λkey h=> ?_⟩;have n2:=(Qx.mp (Qu.mp nd).2.1).2;obtain⟨G',g1,g,O⟩:=tD (ks:=ks) (a:=a) (k:=key) r c T.2 U (Qu.mp n2).1 m.nd λb hb hg=>m.out b hb x (by rw[J];exact Qe _<|.tail _ (Qk _ hg));obtain⟨W,Y,Z⟩:=L.upd ex ev J s g1 g O m.one;exact fin h Y Z
  |_=>exact h.elim) λo0 o0 o0 o0 o0 w o0=>w.elim
theorem RdFs.eraseIdx:∀ {ds:List D} {l:List PV},RdFs σ ds l []->∀j:Nat,RdFs σ (ds.eraseIdx j) (l.eraseIdx j) []
 |[],l,r,j=>by obtain⟨rfl,o0⟩:=r;exact⟨rfl,rfl⟩
 |d::ds,l,r,j=>by
  obtain⟨p,s,F,q,rfl,e,f,M⟩:=r;obtain⟨rfl,rfl⟩:=List.append_eq_nil_iff.mp e.symm
  induction j using Nat.casesOn with
  |zero=>exact M
  |succ j=>exact⟨p,s.eraseIdx j,[],[],rfl,rfl,f,RdFs.eraseIdx M j⟩
theorem mr{S:DSrc}{Δ:DRho}{ρ:Rho}{fp:String->List Jg}(i:Inv N S P Δ ρ σ fp){A Fn B:List Jg}
  (ex:Δ.get x=Ja (u,Jc))(C:ρ.get x=Ja L)(F:fp x=A++(Fn++B))(z:Zip σ u L A Fn B ps Z V)(g:RdFs σ ds vs Fv)(mv:MOK N [] fp Fv){K:D->Prop}
  (h:dmeth m ds Z K)(k:∀dn' n J σ' f,K dn'->updp ps (λo0=>Ja dn') u=Ja n->Inv N S [] (Δ.put x (n,Jc)) ρ σ' f->K' J σ'):wmeth m V vs σ K':=by
 have nd:=(i.own x u ex).1;rw[F] at nd
 induction m with
 |append=>
  match ds,h,g with
  |[d],h,g=>
   obtain⟨l,rfl,E,p⟩:=gz h;obtain⟨a,s,w,W,y,T,I,r⟩:=z.rd;subst W I;have hv:=g.len
   match vs,hv,g with
   |[v],_,g=>
    show onO _ (σ a);rw[y];have t:s.length<lim:=by rw[r.len];exact E
    have n2:=(Qx.mp (Qu.mp nd).2.1).2;obtain⟨O,Y,X⟩:=i.upd ex C F z (dn':= .list (l++[d])) (o':= .list (s++[v])) (λσ' ag e=>⟨a,_,_,rfl,e,by rw[QG];exact t,rfl,(r.app g).ag ag⟩) (Qu.mpr ⟨(Qu.mp n2).1,mv.nd,λb R c hc q=>by
      subst q;exact mv.out b hc x (by rw[F];exact Qe _ (.tail _ (Qk _ R)))⟩) (λb R=>Qr.mp R) mv
    exact⟨t,k _ _ _ _ _ p Y X⟩
 |remove=>
  match ds,h,g with
  |[d],h,g=>
   obtain⟨l,rfl,E,p⟩:=gz h;obtain⟨a,s,w,W,y,T,I,r⟩:=z.rd;subst W I;obtain⟨v,rfl,U⟩:=g.one1;obtain⟨j,H,p⟩:=gA p;obtain rfl:=r.atom E.2;obtain⟨M,p2⟩:=kS U E.1.1 (by decide);show onO _ (σ a);rw[y];obtain⟨O,Y,X⟩:=i.upd ex C F z (dn':= .list (l.eraseIdx j)) (o':= .list (s.eraseIdx j)) (G':=[]) (λσ' ag e=>⟨a,_,[],rfl,e,Qn (List.length_eraseIdx_le ..) T,rfl,(r.eraseIdx j).ag ag⟩) .nil (λb R=>bQ R) mv;exact⟨d.py,D.pys l,j,M,(r.py E.1.2).1,⟨p2,rq r E.1.2<|by decide⟩,T,by rw[mW,List.findIdx?_map];exact H,k _ _ _ _ _ p Y X⟩
theorem ArgsR.rds{ds:List D}{F:List (List Jg)}(r:ArgsR σ (ds.map λd=>(d,Jc)) vs F):RdFs σ ds vs F.flatten:=by
 induction ds generalizing vs F with
 |nil=>cases r;exact⟨rfl,rfl⟩
 |cons d ds h=>cases r with|cons f M y i=>exact⟨_,_,_,_,rfl,rfl,f,h i⟩
theorem kE{d:D}(r:RdF σ d v F)(h:drecv m d):recv m σ v:=by
 have h:dLst (λo0=>True) d/\(recv m σ v=onL σ (λo0=>True) v):=by
  induction m with
  |_=>exact⟨h,rfl⟩
 rw[h.2];obtain⟨l,rfl,o0⟩:=gz h.1;obtain⟨a,k,G,rfl,e,o0⟩:=r;show onL σ _ _;rw[hP e];trivial
theorem l0:∀ks:List (List KA),kidx ks k=Jb->kidx (ks++[k]) k=Ja ks.length
 |[]=>λo0=>Ua rfl
 |y::r=>λh=>by
  have h:(if y=k then Ja 0 else(kidx r k).map (· +1))=Jb:=h;by_cases e:y=k
  ·exact sn<|(Ua e).symm.trans h
  ·rw[Y9 e] at h;show(if y=k then Ja 0 else(kidx (r++[k]) k).map (· +1))=_;rw[Y9 e,l0 r (Option.map_eq_none_iff.mp h)];rfl
theorem uQ:∀ {ks:List (List KA)},kidx ks k=Ja j->j<ks.length:=λ{ks}=>by
 induction ks generalizing j with
 |nil=>intro h;exact ns h
 |cons y r W=>
  intro h;have h:(if y=k then Ja 0 else(kidx r k).map (· +1))=Ja j:=h;by_cases e:y=k
  ·obtain rfl:=sj<|(Ua e).symm.trans h;exact Yz _
  ·rw[Y9 e] at h;obtain⟨i,E,rfl⟩:=Qt.mp h;exact Yn<|W E
theorem r9{ks:List (List KA)}{l:List PV}(T:ks.length=l.length)(h:klook ks l k=Jb):klook (ks++[k]) (l++[v]) k=Ja v:=by
 have q:kidx ks k=Jb:=by
  induction e:kidx ks k with
  |none=>rfl
  |some j=>
   unfold klook at h;rw[e] at h;have h:l[j]? =Jb:=h;rw[WR] at h;have:=uQ e;exact absurd this<|Kc.mpr (zle (QU T) h)
 unfold klook;rw[l0 ks q];show(l++[v])[ks.length]? =_;rw[T,WM<|Qy _,Nat.sub_self];rfl
theorem DRho.put_self:∀ρ:DRho,ρ.get x=Ja v->ρ.put x v=ρ
 |(y,o)::r,h=>by
  by_cases W:y=x
  ·simp only[DRho.get_if,W,if_true] at h;simp only[DRho.put_if,W,if_true,h]
  ·simp only[DRho.get_if,W,if_false] at h;simp only[DRho.put_if,W,if_false,DRho.put_self r h]
theorem xB{Δ:DRho}{ρ:Rho}{fp:String->List Jg}{args:List E}{key:List KA}(i:Inv N P [] Δ ρ σ fp)(q:QR N P Q Q')
  (ex:Δ.get x=Ja (.dict ks l,Jc))(X:ρ.get x=Ja (.ref a))(c:σ a=Ja (.dict ks j))(v:keyD dk=Ja key)(el:klook ks j key=Ja p)
  (h:dOD (λn=>drecv m n/\dwes G (aR cv) args Δ (λvs=>tjs vs=Jb/\dmeth m (fsts vs) n λdn'=>dOD (λd=>Q .next<|Δ.put x (d,Jc))<|dset1 dk (λo0=>Ja dn') (.dict ks l)) λo0 o0=>False) (dsub (.dict ks l) dk)):
  recv m σ p/\wes G cv args ρ σ (λvs O=>wmeth m p vs O λo0 σ1=>Q' .next ρ σ1) X':=by
 obtain⟨n,H,M,B⟩:=gO h;obtain⟨k',F,L⟩:=Qq.mp (show((keyD dk).bind λk=>dlook ks l k)=Ja n from H);obtain rfl:=sj<|v.symm.trans F;obtain⟨S,e,r⟩:=i.env.at_ x _ _ ex;obtain rfl:=sj<|X.symm.trans e;obtain⟨p',A,y,R,⟨a',u,I,Z,C⟩,J,z⟩:=(Zip.here r).key v L;cases I;rw[c] at Z;cases Z;obtain rfl:=sj<|el.symm.trans C;refine⟨kE z.rd M,?_⟩;refine dc args Δ ρ fp σ _ _ _ _ i.env B (λds vs O g h W s=> ?_) λo0 o0 o0 o0 o0 w o0=>w.elim;have K:fp x=A++(y++R):=by rw[<-J,QH,KB]
 exact mr (i.ext W) ex X K (z.ext W) s.rds (i.fresh s.part h.1) h.2 λdn' b S Y f T U V=>by
  obtain⟨t,F,T⟩:=gO T;have U:dset1 dk (λo0=>Ja dn') (.dict ks l)=Ja b:=U;obtain rfl:=sj<|U.symm.trans F;exact q.next _ _ _ _ T V
theorem Bh{args:List E}{fp:String->List Jg}(i:Inv N P [] Δ ρ σ fp)(h:dsd G (aR cv) m args Δ (λH=>Q .next H) x k)(q:QR N P Q Q'):
  ws G cv cu (.expr<|.meth (.sd (.loc x) k) m args) ρ σ Q' X':=by
 obtain⟨⟨d,b⟩,e,g,h⟩:=ey h;cases g;obtain⟨s,l,g,h⟩:=oO h;cases g;obtain⟨v,X,a,K,n,rfl,L,J,F,r⟩:=i.env.at_ x _ _ e;show oV _ (ρ.get x);rw[X];refine⟨?_,bk k Δ ρ fp σ _ _ _ _ i.env h (λdk t vk T Fk h W=> ?_) λo0 o0 o0 o0 o0 w o0=>w.elim⟩
 ·show onDO _ (σ a);rw[L];trivial
 have B:=W.ext a _ L;have f:=r.ext W.ext;have S:=i.ext W.ext;obtain⟨V,h⟩:=h;have D:K.length<lim:=by rw[r.len];exact V
 obtain⟨key,O,h⟩:=iQ h;show onDO _ (T a);rw[B];refine⟨D,?_⟩;rw[nb W.rd O]
 induction Z:dlook s l key with
 |some dn=>
  have A:dens s l key= .dict s l:=by unfold dens;rw[Z]
  rw[A,DRho.put_self _ e] at h;obtain⟨j,p,G',o0,o0,o0,g1,o0,o0⟩:=f.look Z;show(match klook s K key with
   |some v=>_
   |none=>_)
  rw[g1];exact xB S q e X B O g1 h
 |none=>
  have A:dens s l key= .dict (s++[key]) (l++[.list []]):=by unfold dens;rw[Z]
  rw[A] at h;show(match klook s K key with
   |some v=>_
   |none=>_)
  rw[jN f Z];intro b R;have Y:b∉fp x:=λw=>by obtain⟨o,u⟩:=S.env.dom x b w;exact ns<|R.symm.trans u
  have M:Ext T (T.set b (.list [])):=Ext.set R _;have i2:=S.ext M;have ab:b≠a:=λw=>Y (by rw[F,w];exact .head _);have m2:MOK N [] fp [b]:=⟨Qx.mpr ⟨λw=>(bQ w),.nil⟩,λc C=>(Qj.mp C)▸S.new0 R,λc C y I=>(by
   rw[Qj.mp C] at I;obtain⟨o,u⟩:=S.env.dom y b I;exact ns (R.symm.trans u)),λc C=>(bQ C)⟩
  have rb:RdF (T.set b<|.list []) (.list []) (.ref b) [b]:=⟨b,[],[],rfl,PH.set_same _ _ _,QT _,rfl,rfl,rfl⟩
  have r2:=(f.ext M).snoc rb;have nd:=(i.own x _ e).1;rw[F] at nd;have z:Zip (T.set b<|.list []) (.dict s l) (.ref a) [] (a::n) [] [] (.dict s l) (.ref a):= .here ⟨a,K,n,rfl,M a _ B,J,rfl,f.ext M⟩;obtain⟨aa,u1,u2⟩:=i2.upd e X (by rw[F,QH,KB]) z (dn':= .dict (s++[key]) (l++[.list []])) (o':= .dict (s++[key]) (K++[.ref b])) (G':=n++[b]) (Fv:=[b])
   (λac ag e=>⟨a,_,_,rfl,e,by rw[QG,QG,J.2];exact⟨D,rfl⟩,rfl,r2.ag ag⟩) (Qu.mpr ⟨(Qx.mp nd).2,m2.nd,λc C c' U w=>by
    rw[Qj.mp U] at w;exact Y (by rw[F,<-w];exact .tail _ C)⟩) (λc C=>Qr.mp C) m2
  obtain rfl:=sj u1;have hm:x∈keysD Δ:=DRho.get_mem _ e;refine xB u2 q (DRho.get_put _ hm) X (PH.set_same _ _ _) O (p:= .ref b) (r9 J.2<|jN f Z) ?_;simp only[DRho.put_put];exact h
section
variable{o:E}{m:Me}{args:List E}{N:PH}{P:DSrc}{Δ:DRho}{ρ:Rho}{fp:String->List Jg}{σ:PH}{Q:bX}{Q':SPost}{X':gu}
theorem zG(i:Inv N P [] Δ ρ σ fp)(h:dmeE G (aR cv) m args Δ (λH=>Q .next H) (.loc x) (Ja x) Jb)(q:QR N P Q Q'):ws G cv cu (.expr (.meth (.loc x) m args)) ρ σ Q' X':=by
 obtain⟨⟨Z,J⟩,b,U⟩:=ey h.1;obtain⟨v,W,r⟩:=i.env.at_ x Z J b;show oV _ (ρ.get x);rw[W];refine⟨kE r U,?_⟩;refine mx args N P [] Δ ρ fp σ _ _ _ i h.2 λz u p D O I h w j s o0=> ?_;obtain⟨⟨d1,a⟩,T,E,F⟩:=ey h;cases E;obtain⟨K,e,M⟩:=w.env.at_ x d1 Jc T;obtain rfl:=sj<|W.symm.trans e;exact mr w T W (A:=[]) (B:=[]) (by rw[QH,KB]) (.here M) j.rds s F λn d K X f Y C k=>by obtain rfl:=sj C;exact q.next _ _ _ _ Y k
theorem v7(i:Inv N P [] Δ ρ σ fp)(h:dmeE G (aR cv) m args Δ (λH=>Q .next H) o Jb Jb)(q:QR N P Q Q'):ws G cv cu (.expr (.meth o m args)) ρ σ Q' X':=by
 refine kN i.env o _ _ h λx p Z T I g L A Fn B h M ex v J z=> ?_;refine⟨kE z.rd h.1,?_⟩;refine dc args Δ ρ fp T _ _ _ _ (i.env.ext M) h.2 (λE s O Y h W r=> ?_) λo0 o0 o0 o0 o0 w o0=>w.elim;exact mr (i.ext<|M.trans W) ex v J (z.ext W) r.rds ((i.ext M).fresh (r.part) h.1) h.2 λn d K X f k U F=>by
  obtain⟨⟨d1,b⟩,e,k⟩:=ey k;rw[ex] at e;cases e;obtain⟨y,j,k⟩:=gO k;obtain rfl:=sj<|U.symm.trans j;exact q.next _ _ _ _ k F
end
theorem sU{t:E×E}(h:sdOf o=Ja t):o= .sd t.1 t.2:=by
 induction o using E.casesOn with
 |sd a k=>obtain rfl:=sj h;rfl
 |_=>first|exact bnx h|exact onx h|cases h
theorem x5{args:List E}:SDOK G cv cu (.expr (.meth o m args)):=λN P Δ ρ fp σ Q X Q' X' i p h q r=>by
 have h:dmeE G (aR cv) m args Δ (λH=>Q .next H) o (locOf o) (sdOf o):=h
 induction l:locOf o with
 |some x=>
  cases jy l;exact zG i h q
 |none=>
  rw[l] at h
  induction s:sdOf o with
  |some k=>
   rw[s] at h;have h:dsdL G (aR cv) m args Δ (λH=>Q .next H) k.2 (locOf k.1):=h
   induction a:locOf k.1 with
   |none=>rw[a] at h;exact h.elim
   |some x=>
    rw[a] at h;rw[sU s,jy a];exact Bh i h q
  |none=>
   rw[s] at h;exact v7 i h q
theorem vV(O:∀Δ K X,dexpr G (aR cv) e Δ K X=dwe G (aR cv) e Δ (λo0 o0=>K Δ) λc l=>X c l Δ):SDOK G cv cu (.expr e):=λN P Δ ρ fp σ Q X Q' X' i p h q s=>by
 have h:dexpr G (aR cv) e Δ (λH=>Q .next H) X:=h;rw[O] at h;exact bk e Δ ρ fp σ _ _ _ _ i.env h (λd t v T F h r=>q.next _ _ _ _ h<|i.ext r.ext) λo0 o0 o0 o0 o0 w x=>s.ext i w x
theorem qt(b:List E):∀ (a:List E) (σ:PH) (Q:List PV->PH->Prop),wes G c (a++b) ρ σ Q X=wes G c a ρ σ (λvs σ1=>wes G c b ρ σ1 (λws O=>Q (vs++ws) O) X) X
 |[]=>λσ Q=>rfl
 |e::s=>λσ Q=>by
  have:(λv σ1=>wes G c (s++b) ρ σ1 (λvs O=>Q (v::vs) O) X)=λv σ1=>wes G c s ρ σ1 (λvs σ1=>wes G c b ρ σ1 (λws O=>Q (v::(vs++ws)) O) X) X:=by
   funext v σ1;exact qt b s σ1 _
  exact Ud (λK=>we G c e ρ σ K X) this
theorem xl:∀ {l a:List E} {x:String} {b:List E},spl Δ l=Ja (a,x,b)->l=a++ .loc x::b:=λ{l}=>by
 induction l with
 |nil=>exact λh=>ns h
 |cons e r i=>
  intro a x b h;have t:(spl Δ r).map (λq=>(e::q.1,q.2))=Ja (a,x,b)->e::r=a++ .loc x::b:=λh=>by
   obtain⟨⟨Y,n,c⟩,p,w⟩:=Qt.mp h;cases w;exact Ud (e:: ·)<|i p
  replace h:splO Δ r ((spl Δ r).map λq=>(e::q.1,q.2)) (locOf e)=_:=h
  induction T:locOf e with
  |none=>rw[T] at h;exact t h
  |some y=>
   rw[T] at h;replace h:cond (ownD<|Δ.get y) _ _=_:=h;by_cases d:ownD (Δ.get y)=Jc
   ·rw[d] at h;cases h;rw[jy T];rfl
   ·rw[Bool.not_eq_true] at d;rw[d] at h;exact t h
theorem qq{S:DSrc}{Δ:DRho}{fp:String->List Jg}{d:D}(i:Inv N S P Δ ρ σ fp)(ex:Δ.get x=Ja (d,Jc))(r:ERs σ fp σ' ds vs s):
  offs x ds=Jc->ArgsR σ' (lent ds) vs s/\owned (lent ds) s=[]/\∀F∈s,Disj (fp x) F:=by
 induction r with
 |nil=>exact λo0=>⟨.nil,rfl,λF h=>(bQ h)⟩
 |@cons X t v F ds vs s r p q h A=>
  intro Y;obtain⟨k,u⟩:=Qg.mp (show(offT x t&&offs x ds)=Jc from Y);obtain⟨E,B,H⟩:=A u;refine⟨.cons r (λe=>(ft e)) (λp K e=> ?_) E,B,λI J=> ?_⟩
  ·obtain⟨y,W⟩:=Ql.mp (Kz K).1
   rcases e with e|e
   ·exact ft e
   ·rw[<-W.2] at e;exact ft e
  ·cases J with
   |tail _ J=>exact H I J
   |head=>
    intro a T b;obtain⟨l,c⟩:=i.env.dom x a T
    induction t with
    |none=>have:=(p.own rfl).2 a b;exact sn<|c.symm.trans this
    |some Z=>
     rcases p.al Z rfl a b with w|⟨z,R,w⟩
     ·exact sn<|c.symm.trans w
     ·have n:z≠x:=by rintro rfl;simp[offT,mJ,R] at k
      exact i.sep x d ex z n a T w
theorem ArgsR.ext(C:ArgsR σ a v F)(x:Ext σ σ'):ArgsR σ' a v F:=by
 induction C with
 |nil=>exact .nil
 |cons r n d h i=>exact .cons (r.ext x) n d i
theorem ArgsR.app{a b:List (D×Bool)}(C:ArgsR σ a A O)(l:ArgsR σ b B I)(h:∀p∈a.zip O,∀q∈b.zip I,(p.1.2=Jc\/q.1.2=Jc)->Disj p.2 q.2):ArgsR σ (a++b) (A++B) (O++I):=by
 induction C with
 |nil=>exact l
 |@cons d c v F f w s r n j S i=>
  refine .cons r n (λp K e=> ?_) (i λp K q z=>h p (.tail _ K) q z);replace K:p∈(f++b).zip (s++I):=K;rw[List.zip_append (S.lens.2.symm)] at K
  rcases Qr.mp K with K|K
  ·exact j p K e
  ·exact h _ (.head _) p K e
theorem r6{a b:List (D×Bool)}{O I:List (List Jg)}(h:O.length=a.length):owned (a++b) (O++I)=owned a O++owned b I:=by
 induction a generalizing O with
 |nil=>induction O using List.casesOn with
  |nil=>rfl
  |cons=>cases h
 |cons p r i=>induction O using List.casesOn with
  |nil=>cases h
  |cons F s=>
   show(if p.2 then F else [])++owned (r++b) (s++I)=((if p.2 then F else [])++owned r s)++owned b I;rw[i (Nat.succ.inj h),Kr]
theorem Inv.back{S:DSrc}{Δ:DRho}{ρ:Rho}{fp:String->List Jg}(i:Inv N S [] Δ ρ σ fp){d d':D}(e:Δ.get x=Ja (d,Jc))(X:ρ.get x=Ja v)(o:IoOK σ (fp x) σ' d' v F):
  Inv N S [] (Δ.put x (d',Jc)) ρ σ' (fset fp x F):=by
 obtain⟨j,c⟩:=i.move (d':= .hole) (A:=[]) (B:=[]) (F:=fp x) e X rfl (by rw[QH,KB]);obtain⟨u,o0⟩:=j.called c (i.env.dom x) o.kept;have T:=u.put (x:=x) (b:=Jc) o.rd (λo0=>⟨⟨o.nd,λb h=>(o.own b h).elim i.new0 ((i.own x d e).2 b)⟩,λy W b h q=>by
   rw[cr W] at q
   rcases o.own b h with w|w
   ·obtain⟨l,p⟩:=i.env.dom y b q;exact ns<|w.symm.trans p
   ·exact i.sep x d e y W b w q⟩) (λy g W o0 b h q=>by
   rw[cr W] at h
   rcases o.own b q with w|w
   ·obtain⟨l,p⟩:=i.env.dom y b h;exact ns<|w.symm.trans p
   ·exact i.sep x d e y W b w h) (λb h=>(o.own b h).elim (λw=>i.newS b (i.new0 w)) (i.src x b)) (λb h=>(bQ h)) (λw q=>by have:=i.pin x w q;obtain rfl:=sj (X.symm.trans this);rfl)
 rw[DRho.put_put,Rho.put_self _ X,l6] at T;exact T
theorem Bk{args:List E}{fp:String->List Jg}(i:Inv N P [] Δ ρ σ fp)(h:dio G (aR cv) f Δ (λH=>Q .next H) (spl Δ args))(q:QR N P Q Q'):
  ws G cv cu (.expr<|.call f args) ρ σ Q' X':=by
 induction s:spl Δ args with
 |none=>rw[s] at h;exact h.elim
 |some t=>
  obtain⟨a,x,b⟩:=t;rw[s] at h;rw[xl s];refine⟨h.1,?_⟩;rw[qt];refine dc a Δ ρ fp σ _ _ _ _ i.env h.2 (λu A T M h J ra=> ?_) λo0 o0 o0 o0 o0 w o0=>w.elim;obtain⟨⟨d,o⟩,e,e',Y⟩:=ey h.2;cases e';obtain⟨v,W,o0⟩:=i.env.at_ x d Jc e;show oV _ (ρ.get x);rw[W];have S:=i.ext J;refine dc b Δ ρ fp T _ _ _ _ S.env Y (λZ g O C Y j rb=> ?_) λo0 o0 o0 o0 o0 w o0=>w.elim;have R:=S.ext j;obtain⟨v',n,r⟩:=R.env.at_ x d Jc e;obtain rfl:=sj<|W.symm.trans n;obtain⟨B,a2,a3⟩:=qq i e ra h.1;obtain⟨b1,b2,b3⟩:=qq S e rb Y.1;have L:owned (lent u++(d,Jc)::lent Z) (M++fp x::C)=fp x:=by
   rw[r6 B.lens.2,a2];show fp x++owned (lent Z) C=fp x;rw[b2,QH]
  have ar:ArgsR O (lent u++(d,Jc)::lent Z) (A++v::g) (M++fp x::C):=by
   refine(B.ext j).app (.cons r (λo0=>(i.own x d e).1) (λp K o0=>b3 _ (Kz K).2) b1) λp K w I U=> ?_;cases I with
   |head=>exact λc hc hd=>a3 _ (Kz K).2 c hd hc
   |tail _ I=>
    have X:∀ (l:List (D×Tag)),∀y∈lent l,y.2=Jd:=λl y k=>by
     obtain⟨z,o0,rfl⟩:=Ql.mp k;rfl
    rw[X _ _ (Kz K).1,X _ _ (Kz I).1] at U
    rcases U with U|U<;>exact ft U
  refine Y.2 O _ _ _ _ v ar (by
   have:A.length=u.length:=by have:=B.lens.1;rwa [Qd] at this
   rw[<-this,WM (Qy _),Nat.sub_self];rfl) λd' V F hq o=> ?_
  rw[L] at o;exact q.next _ _ _ _ hq<|R.back e W o
theorem yK{args:List E}:SDOK G cv cu (.expr (.call f args)):=λN P Δ ρ fp σ Q X Q' X' i p h q s=>by
 rcases (show dio G (aR cv) f Δ (λH=>Q .next H) (spl Δ args)\/dwe G (aR cv) (.call f args) Δ (λo0 o0=>Q .next Δ) (λc l=>X c l Δ) from h) with h|h
 ·exact Bk i h q
 ·exact bk _ Δ ρ fp σ _ _ _ _ i.env h (λd t v T F h r=>q.next _ _ _ _ h<|i.ext r.ext) λo0 o0 o0 o0 o0 w x=>s.ext i w x
theorem yJ(e:E):SDOK G cv cu (.expr e):=by
 induction e using E.casesOn with
 |meth o m args=>exact x5
 |call f args=>exact yK
 |_=>exact vV λo0 o0 o0=>rfl
theorem zb{P:DSrc}{tg:Tg}{body:DRho->bX->Prop}{body':Rho->PH->SPost->Prop}{chk:PH->Prop}
  (R:∀Δ ρ σ fp K K',Inv N P [] Δ ρ σ fp->body Δ K->QR N P K K'->body' ρ σ K')(Z:∀σ,Ext N σ->chk σ)(q:QR N P Q Q')(S:∀a o,σ1 a=Ja o->o.fixed=Jc->N a=Ja o)(B:∀x∈tg.names,P.pin x=Jb):
  ∀ (xs:List D) (l:List PV) (Gx:List Jg) (Δ:DRho) (ρ:Rho) (σ:PH) (fp:String->List Jg),Inv N P [] Δ ρ σ fp->RdFs σ1 xs l Gx->(∀a∈Gx,N a=σ1 a/\P a)->gV tg body Q xs Δ->forGo chk tg body' Q' l ρ σ:=by
 intro xs
 induction xs with
 |nil=>
  intro l Gx Δ ρ σ fp i r C h;obtain⟨rfl,o0⟩:=r;exact⟨Z σ i.kept,q.next _ _ _ _ h i⟩
 |cons d z E=>
  intro l Gx Δ ρ σ fp i V C h;obtain⟨p,s,I,t,Y,j,v,M⟩:=V;subst Y j;refine⟨Z σ i.kept,?_⟩;obtain⟨H,e,h⟩:=gS h;have F:∀a∈I,N a=σ1 a/\P a:=λa T=>C a (Qk _ T);have b:RdF σ d p I:=v.ag ⟨λa T=>by
    obtain⟨l,c⟩:=v.dom a T;rw[c];exact i.kept a _ ((F a T).1.trans c),λa o U n=>i.kept a o (S a o U n)⟩
  have away:∀y e,Δ.get y=Ja (e,Jc)->Disj (fp y) I:=λy e w a T W=>by
   obtain⟨l,c⟩:=v.dom a W;have:=(i.own y e w).2 a T;rw[(F a W).1,c] at this;exact sn this
  obtain⟨O,f,j,L⟩:=i.bindT b e (λR=>by rw[b.atom R];exact .nil) away (λa T=>(F a T).2) B;rw[j];exact R H O σ f _ _ L h<|q.fl λk J X g A u=>E s t k J X g u M (λa T=>C a<|Qe _ T) A
theorem AG(J:SDOKs G cv cu b):SDOK G cv cu (.for_ tg k V b):=λN P Δ ρ fp σ Q X Q' X' i t h q O=>
 ⟨h.1,dc V Δ ρ fp σ _ _ _ _ i.env h.2 (λf vs T s h x r=>pB r h λM l z Gx h C hl g hc=>⟨hl,by
  have A:=(i.ext x).frz (tjs f)
  let U:PH:=open Classical in λa=>if a∈s.flatten\/¬ (∃l:MO,T a=Ja l.1) then T a else N a
  have Y:∀a∈s.flatten,U a=T a:=λa H=>Ua<|.inl H;have n2:∀a o,T a=Ja o->o.fixed=Jc->U a=Ja o:=λa o Z n=>(Ua (.inr λR=>by obtain⟨l,e⟩:=R;obtain rfl:=sj<|Z.symm.trans e;exact ft<|l.2.symm.trans n)).trans Z;have u:Ext N T:=i.kept.trans x;have L:Ext N U:=λa o e=>by
   by_cases c:a∈s.flatten\/¬ (∃l:MO,T a=Ja l.1)
   ·exact(Ua c).trans (u a o e)
   ·exact(Y9 c).trans e
  have D:Ext U T:=λa o e=>by
   by_cases c:a∈s.flatten\/¬ (∃l:MO,T a=Ja l.1)
   ·exact(Ua c).symm.trans e
   ·exact u a o<|(Y9 c).symm.trans e
  have I:Inv U P [] (Δ.frz<|tjs f) ρ T fp:=by
   refine(Inv.mk A.env A.sep (λy d e=>⟨(A.own y d e).1,λa H=> ?_⟩) A.src D (λa H=>(bQ H)) (λa H=>i.newS a<|L.new H) A.pin:Inv U P [] (Δ.frz<|tjs f) ρ T fp);have B:=(A.own y d e).2 a H;have:¬ (a∈s.flatten\/¬ (∃l:MO,T a=Ja l.1)):=by
    rintro (c|c)
    ·exact i.away r.part e a H c
    ·exact c<|A.env.dom y a H
   exact(Y9 this).trans B
  have fin:=zb (N:=U) (P:=P) (tg:=tg) (chk:=z) (Q:=Q) (Q':=Q') (σ1:=T) (body:=λΔ K=>dwss G (aR cv) (aR cu) b Δ K λo0 o0 o0=>False) (body':=λρ σ K=>wss G cv cu b ρ σ K λo0 o0 o0=>False)
   (λΔ ρ σ fp K K' i h q=>J U P Δ ρ fp σ K _ K' _ i (t.imp λx e=>(Qg.mp (show(!tg.names.contains x&&S.noass x b)=Jc from e)).2) h q λo0 o0 o0 o0 o0 o0 o0 o0 w o0 o0 o0=>w) (λp k=>hc p λa H=>by
    obtain⟨l,j⟩:=r.rds.dom a H;rw[j];exact k a _ ((Y a H).trans j))
   ⟨λΔ ρ σ fp w i=>q.next _ _ _ _ w<|i.less L A.newS,λd b Δ v ρ σ F w r=>q.ret _ _ _ _ _ _ _ w<|r.less L⟩ n2 (λy W=>t.off (show(!tg.names.contains y&&S.noass y b)=Jd by simp[W])) M l Gx (Δ.frz<|tjs f) ρ T fp I C (λa H=>⟨Y a<|g a H,?_⟩) h
  ·exact fin
  ·exact i.srcP r.part a (g a H)⟩) λo0 o0 o0 o0 o0 w x=>O.ext i w x⟩
theorem yB(R:SDOKs G cv cu b)(U:SDOKs G.un cu cu h):SDOK G cv cu (.try1 b c h):=λN P Δ ρ fp σ Q X Q' X' i p w q O=>
 ⟨w.1,R N P Δ ρ fp σ Q _ Q' _ i (λx v e=>by exact ns ((p.off rfl).symm.trans e)) w.2 q λe l ws u j T f F w A r m=>by
  show if G.sub e c then _ else False;by_cases s:G.sub e c=Jc
  ·rw[Ua s] at w ⊢;exact U N P _ _ f _ _ _ _ _ A (λx v e=>by exact ns<|(p.off rfl).symm.trans e) w q λo0 o0 o0 o0 o0 o0 o0 o0 w o0 o0 o0=>w
  ·rw[Y9 s] at w;exact w.elim⟩
theorem xA{tst:DRho->(Bool->Prop)->Prop}{body:DRho->bX->Prop}{t:Rho->PH->(Bool->PH->Prop)->Prop}{body':Rho->PH->SPost->Prop}
  (W:∀Δ ρ σ fp (K:Bool->Prop) (K':Bool->PH->Prop),Inv N P [] Δ ρ σ fp->tst Δ K->(∀b σ',K b->Ext σ σ'->K' b σ')->t ρ σ K')
  (R:∀Δ ρ σ fp K K',Inv N P [] Δ ρ σ fp->body Δ K->QR N P K K'->body' ρ σ K')(q:QR N P Q Q'):∀ (k:Nat) (Δ:DRho) (ρ:Rho) (σ:PH) (fp:String->List Jg),Inv N P [] Δ ρ σ fp->dwhGo tst body Q k Δ->whGo t body' Q' k ρ σ
 |0=>λo0 o0 o0 o0 o0 h=>h.elim
 |k+1=>λΔ ρ σ fp i h=>W Δ ρ σ fp _ _ i h λb σ' w x=>by
  induction b with
  |false=>exact q.next _ _ _ _ w<|i.ext x
  |true=>exact R Δ ρ σ' fp _ _ (i.ext x) w<|q.fl λJ D O f p u=>xA W R q k J D O f u p
theorem vJ(R:SDOKs G cv cu b):SDOK G cv cu (.while_ t b):=λN P Δ ρ fp σ Q X Q' X' i p h q s=>by
 obtain⟨Y,k,h⟩:=(show G.calm=Jc/\∃k,dwhGo (λΔ K=>dwe G (aR cv) t Δ (λv o0=>dBool K v) λc l=>X c l Δ) (λΔ K=>dwss G (aR cv) (aR cu) b Δ K X) Q k Δ from h)
 refine⟨Y,k,xA (λΔ ρ σ fp K W i h n=> ?_) (λΔ ρ σ fp K W i h q=>R N P Δ ρ fp σ K X W X' i (p.imp λx e=>e) h q s) q k Δ ρ σ fp i h⟩;exact bk t Δ ρ fp σ _ _ _ _ i.env h (λd g v T F h r=>by
  obtain⟨c,rfl,h⟩:=eI h;rw[r.rd.1];exact n _ _ h r.ext) λo0 o0 o0 o0 o0 w x=>s.ext i w x
end
mutual
theorem yQ:∀ (s:S) (G:Gx) (cv cu:Cl),SDOK G cv cu s
 | .assign (.name _) _=>λo0 o0 o0=>yp
 | .assign (.tup _) _=>λo0 o0 o0=>AR
 | .setIdx _ _ _=>λo0 o0 o0=>Ak
 | .expr e=>λo0 o0 o0=>yJ e
 | .ret _=>λo0 o0 o0=>A7
 | .if_ _ b o=>λG cv cu=>Br (fw b G cv cu)<|fw o G cv cu
 | .for_ _ _ _ b=>λG cv cu=>AG<|fw b G cv cu
 | .while_ _ b=>λG cv cu=>vJ<|fw b G cv cu
 | .raise _ _=>λo0 o0 o0=>wT
 | .try1 b _ h=>λG cv cu=>yB (fw b G cv cu)<|fw h G.un cu cu
theorem fw:∀ (s:List S) (G:Gx) (cv cu:Cl),SDOKs G cv cu s
 |[]=>λo0 o0 o0=>zR
 |s::r=>λG cv cu=>wG (yQ s G cv cu)<|fw r G cv cu
end
noncomputable def drho0(ps l:List String)(args:List (D×Bool)):DRho:=ps.zip (args.map Ja)++l.map λx=>(x,Jb)
noncomputable def fpz:List String->List (List Jg)->String->List Jg
 |x::P,F::s,y=>if y=x then F else fpz P s y
 |_,_,_=>[]
theorem nR(x:String):∀l:List String,DRho.get (l.map λx=>(x,Jb)) x=Jb
 |[]=>rfl
 |y::r=>by
  by_cases h:y=x
  ·simp[DRho.get_if,h]
  ·simp only[Qo,DRho.get_if,h,if_false];exact nR x r
structure Ent(σ:PH)(args:List (D×Bool))(Fs:List (List Jg))(Δ:DRho)(ρ:Rho)(fp:String->List Jg):Prop where
 env:EnvE σ Δ ρ fp
 at_:∀x d b,Δ.get x=Ja (d,b)->∃p∈args.zip Fs,p.1=(d,b)/\p.2=fp x
 any:∀x,∀a∈fp x,∃p∈args.zip Fs,a∈p.2
 sep:∀x d,Δ.get x=Ja (d,Jc)->∀y,y≠x->Disj (fp x) (fp y)
theorem ent(l:List String):∀ (ps:List String) (args:List (D×Bool)) (vs:List PV) (s:List (List Jg)),ps.length=args.length->ArgsR σ args vs s->Ent σ args s (drho0 ps l args) (ps.zip (vs.map Ja)++l.map λx=>(x,Jb)) (fpz ps s)
 |[]=>λargs vs s H i=>by
  cases i with
  |cons=>cases H
  |nil=>
   have S:∀x q,DRho.get (drho0 [] l []) x≠Ja q:=λx q e=>by
    rw[show DRho.get (drho0 [] l []) x=Jb from nR x l] at e;exact ns e
   refine⟨⟨λx d b e=>absurd e<|S x _,λx a T=>(bQ T),?_⟩,λx d b e=>absurd e<|S x _,λx a T=>(bQ T),λx d e=>absurd e<|S x _⟩;simp only[drho0,List.zip_nil_left,KB,QE];rfl
 |x::ps=>λargs vs s H i=>by
  cases i with
  |nil=>cases H
  |@cons d b v F E vs s r nd j h=>
   have e:=ent l ps E vs s (Nat.succ.inj H) h;have g:DRho.get (drho0 (x::ps) l ((d,b)::E)) x=Ja (d,b):=by simp[drho0,DRho.get_if]
   have S:∀y,y≠x->DRho.get (drho0 (x::ps) l ((d,b)::E)) y=DRho.get (drho0 ps l E) y:=λy W=>by
    show DRho.get ((x,Ja (d,b))::drho0 ps l E) y=_;rw[DRho.get_if,Y9 λq=>W q.symm]
   have K:fpz (x::ps) (F::s) x=F:=Ua rfl;have f:∀y,y≠x->fpz (x::ps) (F::s) y=fpz ps s y:=λy W=>Y9 W;refine⟨⟨λy X G q=> ?_,λy a T=> ?_,?_⟩,λy X G q=> ?_,λy a T=> ?_,λy X q z A a T R=> ?_⟩
   ·by_cases W:y=x
    ·subst W;rw[g] at q;cases q;rw[K];exact⟨v,by simp[Rho.get_c],r⟩
    ·rw[S y W] at q;rw[f y W];obtain⟨w,N,Y⟩:=e.env.at_ y X G q;refine⟨w,?_,Y⟩;show(if x=y then Ja v else _)=_;rw[Y9 λq=>W q.symm];exact N
   ·by_cases W:y=x
    ·subst W;rw[K] at T;exact r.dom a T
    ·rw[f y W] at T;exact e.env.dom y a T
   ·have:=e.env.keys;simp only[drho0,Qo,Ws,List.cons_append] at this ⊢;exact Ud _ this
   ·by_cases W:y=x
    ·subst W;rw[g] at q;cases q;exact⟨((d,b),F),.head _,rfl,K.symm⟩
    ·rw[S y W] at q;obtain⟨p,N,Y,J⟩:=e.at_ y X G q;exact⟨p,.tail _ N,Y,J.trans (f y W).symm⟩
   ·by_cases W:y=x
    ·subst W;rw[K] at T;exact⟨((d,b),F),.head _,T⟩
    ·rw[f y W] at T;obtain⟨p,N,Y⟩:=e.any y a T;exact⟨p,.tail _ N,Y⟩
   ·by_cases W:y=x
    ·subst W;rw[g] at q;cases q;rw[K] at T;rw[f z A] at R;obtain⟨p,N,Y⟩:=e.any z a R;exact j p N (.inl rfl) a T Y
    ·rw[S y W] at q;rw[f y W] at T;by_cases c:z=x
     ·subst c;rw[K] at R;obtain⟨p,N,Y,J⟩:=e.at_ y X Jc q;exact j p N (.inr<|by rw[Y]) a R<|by rw[J];exact T
     ·rw[f z c] at R;exact e.sep y X q z A a T R
theorem l3:∀ (args:List (D×Bool)) (s:List (List Jg)) (a:Jg),(∃p∈args.zip s,p.1.2=Jc/\a∈p.2)->a∈owned args s
 |[],_=>λa r=>by obtain⟨p,h,o0⟩:=r;cases h
 |_::_,[]=>λa r=>by obtain⟨p,h,o0⟩:=r;cases h
 |(d,b)::f,F::s=>λa r=>by
  obtain⟨p,h,N,Y⟩:=r;cases h with
  |head=>cases N;exact Qk _ Y
  |tail _ h=>exact Qe _<|l3 f s a ⟨p,h,N,Y⟩
theorem ArgsR.nd{args:List (D×Bool)}(h:ArgsR σ args vs F):∀p∈args.zip F,p.1.2=Jc->p.2.Nodup:=by
 induction h with
 |nil=>intro p K;cases K
 |cons r nd d h i=>
  intro p K e;cases K with
  |head=>exact nd e
  |tail _ K=>exact i p K e
noncomputable def keep(σ:PH)(O:List Jg):PH:=λa=>if a∈O then Jb else σ a
theorem jp(h:keep σ O a=Jb):σ a=Jb\/a∈O:=by
 by_cases q:a∈O
 ·exact .inr q
 ·exact .inl<|(Y9 q).symm.trans h
theorem jj(x:Ext (keep σ O) σ'):jw O σ σ':=λa o e h=>x a o<|(Y9 h).trans e
theorem pS:∀ (args:List (D×Bool)) (s:List (List Jg)),∀a∈owned args s,a∈s.flatten:=λargs=>by
 induction args with
 |nil=>intro s a h;cases h
 |cons p r i=>
  intro s a h
  induction s using List.casesOn with
  |nil=>cases h
  |cons F s=>
   rcases Qr.mp (show a∈(if p.2 then F else [])++owned r s from h) with q|q
   ·induction K:p.2 with
    |true=>rw[K] at q;exact Qk _ q
    |false=>rw[K] at q;cases q
   ·exact Qe _<|i s a q
theorem inv0{ps:List String}(l:List String){args:List (D×Bool)}{vs:List PV}{F:List (List Jg)}(H:ps.length=args.length)(r:ArgsR σ args vs F)(i:String->Option PV)
  (K:∀x v,i x=Ja v->Rho.get (ps.zip (vs.map Ja)++l.map λx=>(x,Jb)) x=Ja v):
  Inv (keep σ<|owned args F) ⟨λa=>σ a=Jb\/a∈F.flatten,i⟩ [] (drho0 ps l args) (ps.zip (vs.map Ja)++l.map λx=>(x,Jb)) σ (fpz ps F):=by
 have e:=ent l ps args vs F H r;refine⟨e.env,e.sep,λx d q=> ?_,λx a T=> ?_,λa o h=> ?_,λa T=>(bQ T),λa h=>(jp h).imp_right (pS args F a),K⟩
 ·obtain⟨p,N,Y,J⟩:=e.at_ x d Jc q;rw[<-J];exact⟨r.nd p N<|by rw[Y],λa T=>Ua<|l3 _ _ a ⟨p,N,by rw[Y],T⟩⟩
 ·obtain⟨p,N,Y⟩:=e.any x a T;exact .inr<|List.mem_flatten.mpr ⟨p.2,(Kz N).2,Y⟩
 ·by_cases q:a∈owned args F
  ·rw[keep,Ua q] at h;exact ns h
  ·rw[keep,Y9 q] at h;exact h
abbrev Runs(G:Gx)(J c w:Cl)(f:String)(ps l:List String)(b:List S):Prop:=
 ∀ (t:PH) (s:List PV) (Q:Post) (H:XPost),s.length=ps.length->wss G J c b (ps.zip (s.map Ja)++l.map λx=>(x,Jb)) t (λfl o0 X=>match fl with
   | .next=>Q .none X
   | .ret v=>Q v X) (λx o0 X=>H x X)->w f s t Q H
noncomputable def dend(Q:D->Bool->Prop):bX:=λfl o0=>match fl with
 | .next=>Q .none Jc
 | .ret d b=>Q d b
theorem zo{ps s:List String}{args:List (D×Bool)}{Q:D->Bool->Prop}(M:ps.length=args.length)
  (w:dwss G (aR J) (aR W) b (drho0 ps s args) (dend Q) λc l o0=>X c l)(u:Runs G J W B f ps s b):aR B f args Q X:=λt j I P O U k N=>by
 have i:=inv0 s M U (λo0=>Jb) λo0 o0 q=>(ns q)
 refine u t j P O (U.lens.1.trans M.symm)<|fw b G J W _ _ _ _ _ t _ _ _ _ i (λx v q=>(ns q)) w ⟨λL A T p h n=> ?_,λd b L v A T F h r=> ?_⟩ λc z ws L A T p F h n r m=>N c z ws T F h ⟨r,jj n.kept,m.nd,λa H=>jp<|m.own a H⟩
 ·exact k _ _ _ _ [] h ⟨⟨rfl,rfl⟩,jj n.kept,λo0=>⟨.nil,λa h=>(bQ h)⟩,λa h=>(bQ h)⟩
 ·exact k _ _ _ _ F h ⟨r.rd,jj r.kept,λe=>⟨(r.own e).1,λa H=>jp<|(r.own e).2 a H⟩,r.src⟩
def dendI(x:String)(Q:D->Prop):bX:=λfl L=>match fl with
 | .next=>dOE (λp=>p.2=Jc/\Q p.1) (L.get x)
 | .ret _ _=>False
theorem u8:∀ (ps:List String) (vs:List PV) (i:Nat),ps.Nodup->ps[i]? =Ja x->vs[i]? =Ja v->Rho.get (ps.zip (vs.map Ja)++r) x=Ja v
 |p::ps,[],i,_,_,h=>by exact ns h
 |p::ps,w::vs,0,_,N,Y=>by obtain rfl:=sj N;obtain rfl:=sj Y;simp[Rho.get_c]
 |p::ps,w::vs,i+1,o,N,Y=>by
  have n:p≠x:=by
   rintro rfl;exact(Qx.mp o).1 (QB (show ps[i]? =Ja p from N))
  show(if p=x then Ja w else _)=_;rw[Y9 n];exact u8 ps vs i (Qx.mp o).2 N Y
theorem vA{ps l:List String}{args:List (D×Bool)}{Q:D->Prop}(H:ps.length=args.length)(g:ps.Nodup)(hx:ps[i]? =Ja x)(T:S.noass x b=Jc)
  (w:dwss G (aR c) (aR j) b (drho0 ps l args) (dendI x Q) λo0 o0 o0=>False)(K:Runs G c j J f ps l b):(aR J).io f i args Q:=λt s I M m v U Y k=>by
 have O:=inv0 l H U (λy=>if y=x then Ja v else Jb) λy u q=>by
  by_cases W:y=x
  ·obtain rfl:=sj<|(Ua W).symm.trans q;subst W;exact u8 ps s i g hx Y
  ·exact ns<|(Y9 W).symm.trans q
 refine K t s M m (U.lens.1.trans H.symm)<|fw b G c j _ _ _ _ _ t _ _ _ _ O (λy u q=> ?_) w ⟨λL A X Z h n=> ?_,λd b L v A X F h r=>h.elim⟩ λo0 o0 o0 o0 o0 o0 o0 o0 h o0 o0 o0=>h.elim
 ·by_cases W:y=x
  ·subst W;exact T
  ·replace q:(if y=x then Ja v else Jb)=Ja u:=q;exact ns<|(Y9 W).symm.trans q
 ·obtain⟨⟨d,o⟩,e,N,z⟩:=ey (show dOE (λp=>p.2=Jc/\Q p.1) (L.get x) from h);cases N;obtain⟨u,R,r⟩:=n.env.at_ x d Jc e;have:=n.pin x v<|if_pos rfl;obtain rfl:=sj<|R.symm.trans this;exact k d X _ z ⟨r,(n.own x d e).1,λa T=>jp<|(n.own x d e).2 a T,jj n.kept⟩
section
variable{G:Gx}{cl cu:DCl}{Δ:DRho}{X:DX}
section
variable{Q:DQ}
theorem eT:dwe G cl (.none) Δ Q X=(Q .none Jb):=rfl
theorem ce(b):dwe G cl (.bool b) Δ Q X=(Q (.bool b) Jb):=rfl
theorem aN(i):dwe G cl (.int i) Δ Q X=(Q (.int i) Jb):=rfl
theorem vQ(s):dwe G cl (.str s) Δ Q X=(Q (.str s) Jb):=rfl
theorem aD(x):dwe G cl (.loc x) Δ Q X=(dOE (λp=>Q p.1 (tg0 p.1 (Ja [x]))) (Δ.get x)):=rfl
theorem b9(x):dwe G cl (.glob x) Δ Q X=(dglob Q (G.glob x)):=rfl
theorem bp(op a b):dwe G cl (.bin op a b) Δ Q X=(dwe G cl a Δ (λv t=>dwe G cl b Δ (λq l=>dbin op v q t l Q) X) X):=rfl
theorem bN(a):dwe G cl (.not_ a) Δ Q X=(dwe G cl a Δ (λv o0=>dBool (λb=>Q (.bool !b) Jb) v) X):=rfl
theorem cq(a b):dwe G cl (.and_ a b) Δ Q X=(dwe G cl a Δ (λv o0=>dBool (λc=>cond c (dwe G cl b Δ Q X) (Q (.bool Jd) Jb)) v) X):=rfl
theorem cA(a b):dwe G cl (.or_ a b) Δ Q X=(dwe G cl a Δ (λv o0=>dBool (λc=>cond c (Q (.bool Jc) Jb) (dwe G cl b Δ Q X)) v) X):=rfl
theorem dm(a):dwe G cl (.isNone a) Δ Q X=(dwe G cl a Δ (λv o0=>iT v=Jd/\Q (.bool v.isNone) Jb) X):=rfl
theorem dq(a):dwe G cl (.notNone a) Δ Q X=(dwe G cl a Δ (λv o0=>iT v=Jd/\Q (.bool !v.isNone) Jb) X):=rfl
theorem aX(op a b):dwe G cl (.cmp op a b) Δ Q X=(dwe G cl a Δ (λv o0=>dwe G cl b Δ (λq o0=>dcmp op v q λr=>Q (.bool r) Jb) X) X):=rfl
theorem jl(a o1 b o2 c):dwe G cl (.cmp2 a o1 b o2 c) Δ Q X=(dwe G cl a Δ (λA o0=>dwe G cl b Δ (λv o0=>dcmp o1 A v λr=>cond r (dwe G cl c Δ (λj o0=>dcmp o2 v j λr=>Q (.bool r) Jb) X) (Q (.bool Jd) Jb)) X) X):=rfl
theorem bK(l):dwe G cl (.tup l) Δ Q X=(dwes G cl l Δ (λvs=>dtup (fsts vs) (tjs vs) Q) X):=rfl
theorem bH(l):dwe G cl (.list l) Δ Q X=(dwes G cl l Δ (λvs=>dnew (fsts vs) (tjs vs) Q) X):=rfl
theorem aP(a i):dwe G cl (.sub a i) Δ Q X=(dwe G cl a Δ (λA t=>dwe G cl i Δ (λC o0=>dOD (λv=>Q v (tg0 v t)) (dsub A C)) X) X):=rfl
theorem aQ(f args):dwe G cl (.call f args) Δ Q X=(G.fn f=Jc/\dwes G cl args Δ (λvs=>cl f (flags vs) (λd b=>Q d (tg0 d (cond b Jb (tj (Ja []) (tjs vs))))) X) X):=rfl
theorem bj(b args):dwe G cl (.bi b args) Δ Q X=(G.calm=Jc/\dwes G cl args Δ (λvs=>dbi b vs Q) X):=rfl
theorem cN(a ts):dwe G cl (.isi a ts) Δ Q X=(stat ts=Jc/\dwe G cl a Δ (λv o0=>oB (λb=>Q (.bool b) Jb) (disi G v ts)) X):=rfl
theorem iy:dwe G cl (.dict0) Δ Q X=(G.full=Jc/\Q (.dict [] []) Jb):=rfl
theorem wb(a k):dwe G cl (.get a k) Δ Q X=(dwe G cl a Δ (λv t=>dDct (λks l=>dwe G cl k Δ (λI o0=>oK (λk=>dget t Q (dlook ks l k)) (keyD I)) X) v) X):=rfl
theorem eh(x f):dwe G cl (.attr x f) Δ Q X=(dOE (λp=>dOD (λd=>Q d (tg0 d (Ja [x]))) (dfld G f p.1)) (Δ.get x)):=rfl
theorem bZ(c f o args):dwe G cl (.mcall c f o args) Δ Q X=(G.fn f=Jc/\dwe G cl o Δ (λr t=>dIns c r/\dwes G cl args Δ (λvs=>cl f (flags ((r,t)::vs)) (λd b=>Q d (tg0 d (cond b Jb (tj (Ja []) (tjs ((r,t)::vs)))))) X) X) X):=rfl
end
section
variable{Q:List (D×Tag)->Prop}
theorem aE:dwes G cl [] Δ Q X=(Q []):=rfl
theorem aC(e es):dwes G cl (e::es) Δ Q X=(dwe G cl e Δ (λv t=>dwes G cl es Δ (λvs=>Q ((v,t)::vs)) X) X):=rfl
end
end
section
variable{G:Gx}{cl cu:DCl}{Δ:DRho}{Q:bX}{X:DSX}
end
section
variable{G:Gx}{cl cu:DCl}{Δ:DRho}{Q:bX}{X:DSX}{r:List S}
theorem bl(h:dwe G cl e Δ (λd t=>dwss G cl cu r ((Δ.frz t).put x (d,t.isNone)) Q X) λc l=>X c l Δ):dwss G cl cu (.assign (.name x) e::r) Δ Q X:=h
theorem c7(C:G.calm=Jc)(h:dwe G cl e Δ (λd t=>dOR (λP=>dwss G cl cu r P Q X) (eD (.tup xs) d t.isNone (Δ.frz t))) λc l=>X c l Δ):dwss G cl cu (.assign (.tup xs) e::r) Δ Q X:=⟨C,h⟩
theorem cg(h:dwe G cl t Δ (λv o0=>dBool (λc=>cond c (dwss G cl cu b Δ (donFl (λi=>dwss G cl cu r i Q X) Q) X) (dwss G cl cu o Δ (donFl (λi=>dwss G cl cu r i Q X) Q) X)) v) λc l=>X c l Δ):dwss G cl cu (.if_ t b o::r) Δ Q X:=h
theorem bL(h:dwe G cl e Δ (λd t=>Q (.ret d t.isNone) Δ) λc l=>X c l Δ):dwss G cl cu (.ret e::r) Δ Q X:= .inr h
theorem cZ(h:dwm G cl e Δ λd P=>Q (.ret d Jc) P):dwss G cl cu (.ret e::r) Δ Q X:= .inl h
theorem zE(h:dexpr G cl e Δ (λP=>dwss G cl cu r P Q X) X):dwss G cl cu (.expr e::r) Δ Q X:=h
theorem n0(h:dwm G cl e Δ (λd u=>dpath G cl o u (λx ps n=>dwe G cl i u (λj o0=>dsetI n j d λdn'=>dput u x ps dn' λP=>dwss G cl cu r P Q X) λo0 o0=>False) λo0 o0=>False)):dwss G cl cu (.setIdx o i e::r) Δ Q X:=h
theorem ig(C:G.calm=Jc)(k:Nat)(h:dwhGo (λΔ K=>dwe G cl t Δ (λv o0=>dBool K v) λc l=>X c l Δ) (λΔ K=>dwss G cl cu b Δ K X) (donFl (λi=>dwss G cl cu r i Q X) Q) k Δ):dwss G cl cu (.while_ t b::r) Δ Q X:=⟨C,k,h⟩
theorem dz(C:G.calm=Jc)(h:dwes G cl t Δ (λvs=>dsrc k (fsts vs) λxs=>gV tg (λΔ K=>dwss G cl cu b Δ K λo0 o0 o0=>False) (donFl (λi=>dwss G cl cu r i Q X) Q) xs (Δ.frz (tjs vs))) λc l=>X c l Δ):
  dwss G cl cu (.for_ tg k t b::r) Δ Q X:=⟨C,h⟩
theorem gZ{K:DRho->Prop}(h:K Δ):donFl K Q .next Δ:=h
end
theorem jO{L:Type}{el:DRho->DQ->Prop}{K:List D->Tag->Prop}(g f:L->D)(h:L->Prop)(U:∀a,h a->∀K:DQ,K (f a) Jb->dOR (λP=>el P K) (bq tg (g a) Δ)):
  ∀ (l:List L) (c:List D),(∀a∈l,h a)->K (c++l.map f) Jb->dcomp tg Δ t (λo0 K=>K Jc) el (l.map g) c Jb K
 |[]=>λc o0 k=>by rw[WG,QH] at k;exact k
 |a::l=>λc T k=>by
  obtain⟨P,e,w⟩:=gS (U a (T a (.head _)) (λd u=>dcomp tg Δ t (λo0 K=>K Jc) el (l.map g) (c++[d]) (tj Jb (tout tg.names t u)) K)
   (jO g f h U l (c++[f a]) (λb R=>T b (.tail _ R)) (by rw[Kr];exact k)))
  show dOR _ (bq tg (g a) Δ);rw[e];exact w
theorem e9{L:Type}{tst:DRho->(Bool->Prop)->Prop}{el:DRho->DQ->Prop}{K:List D->Tag->Prop}(g f:L->D)(p:L->Bool)(h:L->Prop)
  (U:∀a,h a->dOR (λP=>(∀T:Bool->Prop,T (p a)->tst P T)/\(p a=Jc->∀K:DQ,K (f a) Jb->el P K)) (bq tg (g a) Δ)):
  ∀ (l:List L) (c:List D),(∀a∈l,h a)->K (c++(l.filter p).map f) Jb->dcomp tg Δ s tst el (l.map g) c Jb K
 |[]=>λc o0 k=>by rw[List.filter_nil,WG,QH] at k;exact k
 |a::l=>λc H k=>by
  obtain⟨P,e,A,w⟩:=gS<|U a (H a<|.head _);show dOR _ (bq tg (g a) Δ);rw[e];refine A _ ?_
  induction t:p a with
  |true=>
   rw[QZ t] at k;exact w t _<|e9 g f p h U l (c++[f a]) (λb R=>H b<|.tail _ R) (by rw[Kr];exact k)
  |false=>
   rw[Ka (by rw[t];exact QC)] at k;exact e9 g f p h U l c (λb R=>H b<|.tail _ R) k
theorem nW{L:Type}{body:DRho->bX->Prop}(g:L->D)(I:Nat->DRho->Prop)(R:Nat->D->Bool->Prop):∀ (l:List L) (i:Nat) (Δ:DRho),I i Δ->
  (∀ (j:Nat) (a:L) (Δ:DRho),l[j]? =Ja a->I (i+j) Δ->∀K:bX,(∀P,I (i+j+1) P->K .next P)->(∀d b P,R (i+j) d b->K (.ret d b) P)->dOR (λP=>body P K) (eD tg (g a) (g a).atom Δ))->
  (∀P,I (i+l.length) P->Q .next P)->(∀j d b P,j<l.length->R (i+j) d b->Q (.ret d b) P)->gV tg body Q (l.map g) Δ
 |[]=>λi Δ U o0 q o0=>q Δ U
 |a::l=>λi Δ U h q Z=>by
  obtain⟨P,e,w⟩:=gS (h 0 a Δ rfl U (donFl (λJ=>gV tg body Q (l.map g) J) Q) (λJ Y=>nW g I R l (i+1) J Y (λj b Δ H p K N k=>by
    rw[QI] at p;exact h (j+1) b Δ H p K (λP z=>N P (by rw[QI i 1 j];exact z)) λd b P z=>k d b P (by rw[QI i 1 j];exact z))
   (λP z=>q P (by rw[KU,<-Yl,<-QI];exact z)) λj d b P H z=>Z (j+1) d b P (Yn H) (by rw[<-Yl,<-QI];exact z)) λd b P z=>Z 0 d b P (Yz _) z)
  show dOR _ (eD tg (g a) (g a).atom Δ);rw[e];exact w
theorem cK{L:Type}{body:DRho->bX->Prop}(g:L->D)(I:Nat->DRho->Prop)(l:List L)(Δ:DRho)(i:I 0 Δ)
  (h:∀ (j:Nat) (a:L) (Δ:DRho),l[j]? =Ja a->I j Δ->∀K:bX,(∀P,I (j+1) P->K .next P)->dOR (λP=>body P K) (eD tg (g a) (g a).atom Δ))(q:∀P,I l.length P->Q .next P):gV tg body Q (l.map g) Δ:=
 nW g I (λo0 o0 o0=>False) l 0 Δ i (λj a Δ e p K k o0=>by rw[KR] at p k;exact h j a Δ e p K k) (λP z=>by rw[KR] at z;exact q P z) λo0 o0 o0 o0 o0 z=>z.elim
section
variable{Q:DQ}{K:Bool->Prop}{ta tb:Tag}
theorem dD(x y:Int):dbin .add (.int x) (.int y) ta tb Q=Q (.int (x+y)) Jb:=rfl
theorem eH(x y:Int):dbin .sub (.int x) (.int y) ta tb Q=Q (.int (x-y)) Jb:=rfl
theorem lr(x y:Int):dbin .mul (.int x) (.int y) ta tb Q=((x.natAbs<2^64\/y.natAbs<2^64)/\Q (.int (x*y)) Jb):=rfl
theorem eK(x y:Int):dbin .fdiv (.int x) (.int y) ta tb Q=(y≠0/\y.natAbs<1073741824/\Q (.int (x.fdiv y)) Jb):=rfl
theorem cD(x y:Int):dbin .mod (.int x) (.int y) ta tb Q=(y≠0/\Q (.int (x.fmod y)) Jb):=rfl
theorem pA(x y:Int):dbin (.pow ()) (.int x) (.int y) ta tb Q=(0<=y/\y<=1000/\x.natAbs<2^64/\Q (.int (x^y.toNat)) Jb):=rfl
theorem jc(x y:List D):dbin .add (.list x) (.list y) ta tb Q=dnew (x++y) (tgl (x++y) (tj ta tb)) Q:=rfl
theorem qi(x y:Int):dcmp .lt (.int x) (.int y) K=K (decide (x<y)):=rfl
theorem lb(x y:Int):dcmp .le (.int x) (.int y) K=K (decide (x<=y)):=rfl
theorem j4(x y:Int):dcmp (.gt ()) (.int x) (.int y) K=K (decide (x>y)):=rfl
theorem qj(x y:Int):dcmp .ge (.int x) (.int y) K=K (decide (x>=y)):=rfl
theorem bY(x y:Int):D.eqv (.int x) (.int y)=decide (x=y):=rfl
theorem tm(x y:Bool):D.eqv (.bool x) (.bool y)=(x==y):=by rcases x with⟨⟩<;>rcases y with⟨⟩<;>rfl
theorem lf{n:Nat}{k:Int}(h:0<=k)(N:k<n):place n k=Ja k.toNat:=by unfold place;rw[Ua h,Ua N]
theorem eG(h:i<n):place n (i:Int)=Ja i:=by rw[lf (by exact QS _) (by exact Kf.mpr h)];rfl
end
theorem eX{a b:Int}(h:0<b):0<=a.fmod b/\a.fmod b<b:=⟨Int.fmod_nonneg_of_pos a h,Int.fmod_lt_of_pos a h⟩
theorem cM{p:Prop}[Decidable p]{a b:Prop}(N:p->a)(Y:¬p->b):cond (decide p) a b:=by
 by_cases h:p
 ·rw[Y6 h];exact N h
 ·rw[Y7 h];exact Y h
theorem aZ(p:String)(ps l:List String)(a:D×Bool)(as:List (D×Bool)):drho0 (p::ps) l (a::as)=Nb p a.2 a.1 (drho0 ps l as):=rfl
theorem cb(p:String)(l:List String):drho0 [] (p::l) []=No p Jb (drho0 [] l []):=rfl
theorem bv:drho0 [] [] []=[]:=rfl
theorem cF(x:String)(Δ:DRho):hM (.name x) Δ=No ".0" Jb (No x Jb Δ):=rfl
theorem Bt(x y:String)(Δ:DRho):hM (.tup [x,y]) Δ=No ".0" Jb (No x Jb (No y Jb Δ)):=rfl
theorem aH{L u:Type}(f:L->u)(a:L)(l:List L):(a::l).map f=f a::l.map f:=rfl
theorem aI{L u:Type}(f:L->u):([]:List L).map f=[]:=rfl
theorem aU{L:Type}(a:L)(l:List L):(a::l).length=l.length+1:=rfl
theorem aV{L:Type}:([]:List L).length=0:=rfl
theorem ej{L:Type}(a:L)(l m:List L):(a::l)++m=a::(l++m):=rfl
theorem bO{L:Type}(m:List L):[]++m=m:=rfl
theorem cJ{L u:Type}(f:L->u):(Jb:Option L).map f=Jb:=rfl
theorem aS{L:Type}(a:L):(Ja a).isNone=Jd:=rfl
theorem aG{L:Type}:(Jb:Option L).isNone=Jc:=rfl
theorem aA{L:Sort u}(a b:L):cond Jc a b=a:=rfl
theorem aB{L:Sort u}(a b:L):cond Jd a b=b:=rfl
theorem cm:(!Jc)=Jd:=rfl
theorem j5:(!Jd)=Jc:=rfl
theorem cp(b:Bool):(Jc&&b)=b:=rfl
theorem bE(b:Bool):(Jd&&b)=Jd:=rfl
theorem fP(b:Bool):(Jc||b)=Jc:=rfl
theorem fK(b:Bool):(Jd||b)=b:=rfl
theorem wM{l:List Int}{i:Int}(h:0<=i)(N:i<l.length):dsub (.scr l) (.int i)=Ja (.int (l[i.toNat]?.getD 0)):=by
 show((place l.length i).bind λj=>l[j]?).map D.int=_;rw[lf h N];show(l[i.toNat]?).map D.int=_;rw[Qi (show i.toNat<l.length by exact(KT h).mpr N)];rfl
theorem gv{l:List Int}{i:Int}(h:0<=i)(N:i<l.length):dsub (.list (l.map .int)) (.int i)=Ja (.int (l[i.toNat]?.getD 0)):=by
 show((place (l.map D.int).length i).bind λj=>(l.map D.int)[j]?)=_;rw[Qd,lf h N];show(l.map D.int)[i.toNat]? =_;rw[Qs,Qi (show i.toNat<l.length by exact(KT h).mpr N)];rfl
theorem iW{l:List D}{j:Nat}{v:D}(h:l[j]? =Ja v):dsub (.list l) (.int j)=Ja v:=by
 have H:j<l.length:=by
  rcases Nat.lt_or_ge j l.length with q|q
  ·exact q
  ·exact ns<|(KW q).symm.trans h
 show((place l.length (j:Int)).bind λj=>l[j]?)=_;rw[eG H];exact h
section
variable{G:Gx}
theorem xD(i:Int):disi G (.int i) ["int"]=Ja Jc:=rfl
theorem xI(i:Int):disi G (.int i) ["bool"]=Ja Jd:=rfl
theorem z8(i:Bool):disi G (.bool i) ["bool"]=Ja Jc:=rfl
theorem l4(l:List D):disi G (.list l) ["list"]=Ja Jc:=rfl
theorem iM(l:List D):disi G (.tup l) ["tuple"]=Ja Jc:=rfl
theorem Ai(i:Bool):disi G (.bool i) ["int"]=Ja Jc:=rfl
end
theorem kr{p:Prop}[Decidable p]{a b:Prop}(N:p->b)(Y:¬p->a):cond (!decide p) a b:=by
 by_cases h:p
 ·rw[Y6 h];exact N h
 ·rw[Y7 h];exact Y h
theorem i5{a b:Prop}(h:c=Jc->a)(p:c=Jd->b):cond c a b:=by
 induction c with
 |true=>exact h rfl
 |false=>exact p rfl
theorem jk{a b:Prop}(h:c=Jc->b)(p:c=Jd->a):cond (!c) a b:=by
 induction c with
 |true=>exact h rfl
 |false=>exact p rfl
theorem mP{G:Gx}{args:List E}(h:G.full=Jc/\G.calm=Jc/\(G.mks.contains c=Jc\/(G.inis.contains c=Jc/\args.length=(G.flds c).length)))
  (w:dwes G cl args Δ (λvs=>X c (((fsts vs).take (G.flds c).length).map λo0=> .hole) Δ) λc l=>X c l Δ):dwss G cl cu (.raise c args::r) Δ Q X:=⟨h,w⟩
section
variable{Q:DQ}{t ta tb:Tag}{Δ:DRho}
theorem aK(K:D×Bool->Prop)(v:D×Bool):dOE K (Ja v)=K v:=rfl
theorem cG(K:D->Prop)(v:D):dOD K (Ja v)=K v:=rfl
theorem bJ(K:DRho->Prop)(v:DRho):dOR K (Ja v)=K v:=rfl
theorem cB(K:Nat->Prop)(v:Nat):oNat K (Ja v)=K v:=rfl
theorem AE(K:List Int->Prop)(v:List Int):oIs K (Ja v)=K v:=rfl
theorem gW(K:Bool->Prop)(v:Bool):oB K (Ja v)=K v:=rfl
theorem vR(K:Int->Prop)(x:Int):dInt K (.int x)=K x:=rfl
theorem bt(K:Bool->Prop)(x:Bool):dBool K (.bool x)=K x:=rfl
theorem dp(K:List D->Prop)(x:List D):dLst K (.list x)=K x:=rfl
theorem cw(K:List D->Prop)(x:List D):dSeq K (.list x)=K x:=rfl
theorem bW(K:D->Tag->Prop)(d:D)(t:Tag):d1 K [(d,t)]=K d t:=rfl
theorem bS(args:List (D×Tag)):dbi .len args Q=d1 (λd o0=>oNat (λn=>Q (.int n) Jb) (dlen d)) args:=rfl
theorem hV(args:List (D×Tag)):dbi .all args Q=d1 (λd o0=>dLst (λl=>oBs (λbs=>Q (.bool (bs.all id)) Jb) (iY l)) d) args:=rfl
theorem gm(args:List (D×Tag)):dbi .sum args Q=d1 (λd o0=>dLst (λl=>oIs (λis=>Q (.int is.sum) Jb) (dInts l)) d) args:=rfl
theorem vf(args:List (D×Tag)):dbi .int args Q=d1 (λd o0=>dBool (λx=>Q (.int (if x then 1 else 0)) Jb) d) args:=rfl
theorem eQ(args:List (D×Tag)):dbi .list args Q=d1 (λd t=>dList Q t d) args:=rfl
theorem sb(l:List D):dList Q t (.list l)=Q (.list l) (tgl l t):=rfl
theorem AF(ks:List (List KA))(l:List D):dList Q t (.dict ks l)=((ks.length<=lim/\∀k∈ks,k.length<=lim)/\Q (.list (ks.map keyDd)) Jb):=rfl
theorem rK(args:List (D×Tag)):dbi .sorted args Q=d1 (λd o0=>dLst (λl=>oIs (λis=>is.length<64/\∀j:List Int,j.Perm is->j.Pairwise (· <= ·)->Q (.list (j.map .int)) Jb) (dInts l)) d) args:=rfl
theorem jo(a:D)(l:List D)(K:Bool->Prop):din a (.list l) K=((a.okd 40=Jc/\D.okds 40 l=Jc)/\K (l.any λd=>D.eqv d a)):=rfl
theorem tt(a:D)(ks:List (List KA))(l:List D)(K:Bool->Prop):din a (.dict ks l) K=oK (λk=>K (kidx ks k).isSome) (keyD a):=rfl
theorem vS(K:List (List KA)->List D->Prop)(ks:List (List KA))(l:List D):dDct K (.dict ks l)=K ks l:=rfl
theorem pe(K:List KA->Prop)(k:List KA):oK K (Ja k)=K k:=rfl
theorem dy(ks:List (List KA))(l:List D):tg0 (.dict ks l) t=t:=rfl
theorem dW(ks:List (List KA))(l:List D):D.atom (.dict ks l)=Jd:=rfl
theorem Bl(d:D):dget t Q (Ja d)=Q d (tg0 d t):=rfl
theorem wK(l:List D)(i d:D)(K:D->Prop):dsetI (.list l) i d K=dInt (λk=>oNat (λj=>K (.list (l.set j d))) (place l.length k)) i:=rfl
theorem Bf(ks:List (List KA))(l:List D)(i d:D)(K:D->Prop):dsetI (.dict ks l) i d K=(l.length<lim/\oK (λk=>K (dkset ks l k d)) (keyD i)):=rfl
theorem Bb:dget t Q Jb=Q (.list []) Jb:=rfl
theorem qA(args:List (D×Tag)):dbi (.dict ()) args Q=d1 (λd o0=>dDct (λks l=>(ks≠ []/\(∀k∈ks,dK k=Jc)/\D.atoms l=Jc)/\Q (.dict ks l) Jb) d) args:=rfl
theorem gr(c:String)(l:List D):tg0 (.inst c l) t=tgl l t:=rfl
theorem mQ(c:String)(l:List D):D.atom (.inst c l)=D.atoms l:=rfl
theorem eA(c K:String)(l:List D):dIns c (.inst K l)=(K=c):=rfl
theorem nH(args:List (D×Tag)):dbi .min args Q=dMin Q args:=rfl
theorem eF(a b:D)(K:Bool->Prop):dcmp .nin a b K=din a b λr=>K (!r):=rfl
theorem cE(l:List D):dlen (.list l)=Ja l.length:=rfl
theorem iJ(l:List D):dlen (.tup l)=Ja l.length:=rfl
theorem xG(l:List Int):dlen (.scr l)=Ja l.length:=rfl
theorem c4(a b:D)(K:Bool->Prop):dcmp .eq a b K=deq a b K:=rfl
theorem fD(a b:D)(K:Bool->Prop):dcmp .ne a b K=deq a b λr=>K (!r):=rfl
theorem i6(a b:D)(K:Bool->Prop):dcmp .in_ a b K=din a b K:=rfl
theorem AX(i:Int):dglob Q (Ja (.int i))=Q (.int i) Jb:=rfl
theorem ct(v:D)(K:List D->Prop):dsrc .val [v] K=dSeq K v:=rfl
theorem Bd(a:List D)(K:List D->Prop):dsrc .enum [.list a] K=K (enumD 0 a):=rfl
theorem g7(n:Int)(K:List D->Prop):dsrc .range [.int n] K=((-1000000<n/\n<=1000000)/\K ((Qc n.toNat).map λ(i:Nat)=> .int i)):=rfl
theorem bB:Δ.frz Jb=Δ:=rfl
theorem fR(y:String)(b:Bool)(v:D)(r:DRho)(xs:List String):DRho.frz (Nb y b v r) (Ja xs)=No y (cond (hasS xs y) (Ja (v,v.atom&&b)) (Ja (v,b))) (DRho.frz r (Ja xs)):=rfl
theorem gn(y:String)(o:Option (D×Bool))(r:DRho)(xs:List String):DRho.frz (No y o r) (Ja xs)=No y (cond (hasS xs y) (o.map λq=>(q.1,q.1.atom&&q.2)) o) (DRho.frz r (Ja xs)):=rfl
theorem fM(y:String)(b:Bool)(v:D)(r:DRho):No y (Ja (v,b)) r=Nb y b v r:=rfl
theorem fN(xs:List String):DRho.frz [] (Ja xs)=[]:=rfl
theorem bw(i:Int):tg0 (.int i) t=Jb:=rfl
theorem Bc(i:Bool):tg0 (.bool i) t=Jb:=rfl
theorem Bg:tg0 .none t=Jb:=rfl
theorem gY(s:List Int):tg0 (.scr s) t=Jb:=rfl
theorem bo(l:List D):tg0 (.list l) t=t:=rfl
theorem bR(l:List D):tg0 (.tup l) t=tgl l t:=rfl
theorem bu:tj Jb t=t:=rfl
theorem bC(xs:List String):tj (Ja xs) Jb=Ja xs:=rfl
theorem ch(xs ys:List String):tj (Ja xs) (Ja ys)=Ja (xs++ys):=rfl
theorem aT:tjs []=Jb:=rfl
theorem aW(p:D×Tag)(r:List (D×Tag)):tjs (p::r)=tj p.2 (tjs r):=rfl
theorem fJ(x y:String)(u v:D)(b:Bool):eD (.tup [x,y]) (.tup [u,v]) b Δ=Ja ((Δ.put x (u,b)).put y (v,b)):=rfl
theorem rM(x y z:String)(u v w:D)(b:Bool):eD (.tup [x,y,z]) (.tup [u,v,w]) b Δ=Ja (((Δ.put x (u,b)).put y (v,b)).put z (w,b)):=rfl
theorem wk(v:D):dMin Q [(v,t)]=dLst (λl=>oIs (λis=>is≠ []/\Q (.int (lmin is)) Jb) (dInts l)) v:=rfl
theorem b8(x:String)(v:D)(b:Bool):eD (.name x) v b Δ=Ja (Δ.put x (v,b)):=rfl
theorem fO(x:String):hasS [] x=Jd:=rfl
theorem fQ(y:String)(r:List String)(x:String):hasS (y::r) x=(y==x||hasS r x):=rfl
theorem bI(l:List D):D.atom (.list l)=Jd:=rfl
theorem cy(i:Int):D.atom (.int i)=Jc:=rfl
theorem yb(i:Bool):D.atom (.bool i)=Jc:=rfl
theorem Bu(i:List Int):D.atom (.scr i)=Jc:=rfl
theorem Bv:D.atom .none=Jc:=rfl
theorem gE(l:List D):D.atom (.tup l)=D.atoms l:=rfl
theorem bA:D.atoms []=Jc:=rfl
theorem bz(d:D)(l:List D):D.atoms (d::l)=(d.atom&&D.atoms l):=rfl
theorem get_c(y:String)(v:Option (D×Bool))(r:DRho)(x:String):DRho.get ((y,v)::r) x=cond (y==x) v (DRho.get r x):=rfl
theorem put_c(y:String)(o:Option (D×Bool))(r:DRho)(x:String)(v:D×Bool):DRho.put ((y,o)::r) x v=cond (y==x) ((y,Ja v)::r) ((y,o)::DRho.put r x v):=rfl
theorem aF(y:String)(b:Bool)(v:D)(r:DRho)(x:String):DRho.get (Nb y b v r) x=cond (y==x) (Ja (v,b)) (DRho.get r x):=rfl
theorem aJ(y:String)(o:Option (D×Bool))(r:DRho)(x:String):DRho.get (No y o r) x=cond (y==x) o (DRho.get r x):=rfl
theorem aL(y:String)(b:Bool)(v:D)(r:DRho)(x:String)(p:D×Bool):DRho.put (Nb y b v r) x p=cond (y==x) (Nb y p.2 p.1 r) (Nb y b v (DRho.put r x p)):=rfl
theorem aM(y:String)(o:Option (D×Bool))(r:DRho)(x:String)(p:D×Bool):DRho.put (No y o r) x p=cond (y==x) (Nb y p.2 p.1 r) (No y o (DRho.put r x p)):=rfl
end
def elD(G:Gx)(cl:DCl)(e:E):DRho->DQ->Prop:=λP K=>dwe G cl e P K λo0 o0=>False
def tstD(G:Gx)(cl:DCl)(e:E):DRho->(Bool->Prop)->Prop:=λP K=>dwe G cl e P (λv o0=>dBool K v) λo0 o0=>False
section
variable{G:Gx}{cl cu:DCl}{Δ:DRho}{Q:DQ}{X:DX}
theorem b6(c:G.calm=Jc)(h:dwes G cl i Δ (λvs=>dsrc k (fsts vs) λxs=>dcomp tg Δ (tjs vs) (λo0 K=>K Jc) (elD G cl e) xs [] Jb λa t=>Q (.list a) t) X):dwe G cl (.comp e tg k i) Δ Q X:=⟨c,h⟩
theorem cx(C:G.calm=Jc)(h:dwes G cl i Δ (λvs=>dsrc k (fsts vs) λxs=>dcomp tg Δ (tjs vs) (tstD G cl c) (elD G cl e) xs [] Jb λa t=>Q (.list a) t) X):dwe G cl (.compIf e tg k i c) Δ Q X:=⟨C,h⟩
variable{QM:D->DRho->Prop}
theorem oh(o a b):dwm G cl (.bin o a b) Δ QM=dwe G cl (.bin o a b) Δ (λd t=>t=Jb/\QM d Δ) λo0 o0=>False:=rfl
theorem lG(a b c d):dwm G cl (.comp a b c d) Δ QM=dwe G cl (.comp a b c d) Δ (λd t=>t=Jb/\QM d Δ) λo0 o0=>False:=rfl
theorem dU(l):dwm G cl (.tup l) Δ QM=dwms G cl l Δ (λds P=>ds.length<=lim/\QM (.tup ds) P):=rfl
theorem cf(x):dwm G cl (.loc x) Δ QM=dOE (λp=>cond p.1.atom (QM p.1 Δ) (p.2=Jc/\QM p.1 (Δ.put x (.hole,Jc)))) (Δ.get x):=rfl
theorem ue(h:dwe G cl (.call f l) Δ (λd t=>t=Jb/\QM d Δ) λo0 o0=>False):dwm G cl (.call f l) Δ QM:=h
theorem dX{Q:List D->DRho->Prop}:dwms G cl [] Δ Q=Q [] Δ:=rfl
theorem cX{Q:List D->DRho->Prop}(e es):dwms G cl (e::es) Δ Q=dwm G cl e Δ (λd i=>dwms G cl es i (λds J=>Q (d::ds) J)):=rfl
theorem AI{Q:bX}{X:DSX}{r:List S}{x:String}{e:E}(h:dOE (λp=>dLst (λo0=>True) p.1) (Δ.get x)/\dwm G cl e Δ (λd i=>dOE (λp=>p.2=Jc/\dLst (λl=>((d.okd 40=Jc/\D.okds 40 l=Jc)/\D.atoms l=Jc)/\oNat (λj=>dwss G cl cu r (i.put x (.list (l.eraseIdx j),Jc)) Q X) (l.findIdx? λy=>D.eqv y d)) p.1) (i.get x))):
  dwss G cl cu (.expr (.meth (.loc x) .remove [e])::r) Δ Q X:=h
theorem iH{Q:bX}{X:DSX}{r:List S}{x:String}{e:E}(h:dOE (λp=>dLst (λo0=>True) p.1) (Δ.get x)/\dwm G cl e Δ (λd i=>dOE (λp=>p.2=Jc/\dLst (λl=>l.length<lim/\dwss G cl cu r (i.put x (.list (l++[d]),Jc)) Q X) p.1) (i.get x))):
  dwss G cl cu (.expr (.meth (.loc x) .append [e])::r) Δ Q X:=h
end
theorem g8(n:Nat):((n:Int)).toNat=n:=rfl
theorem eB{body:DRho->bX->Prop}(I:Nat->DRho->Prop)(U:I 0 Δ)(h:∀ (j:Nat) (Δ:DRho),j<n->I j Δ->∀K:bX,(∀P,I (j+1) P->K .next P)->dOR (λP=>body P K) (eD tg (.int j) Jc Δ))
  (q:∀P,I n P->Q .next P):gV tg body Q ((Qc n).map λ(i:Nat)=> .int i) Δ:=
 cK (λ(i:Nat)=> .int i) I _ _ U (λj a Δ e H K k=>by
  obtain⟨N,p⟩:=QF.mp e;rw[QA] at N;rw[Wt] at p;subst p;exact h j Δ N H K k) (by rw[QA];exact q)
theorem cS{el:DRho->DQ->Prop}{K:List D->Tag->Prop}(f:Nat->D)(U:∀i,i<n->∀K:DQ,K (f i) Jb->dOR (λP=>el P K) (bq tg (.int i) Δ))(k:K ((Qc n).map f) Jb):
  dcomp tg Δ s (λo0 K=>K Jc) el ((Qc n).map λ(i:Nat)=> .int i) [] Jb K:=
 jO (λ(i:Nat)=> .int i) f (· <n) U _ [] (λa h=>Qf.mp h) k
theorem bG{L:Type}{l:List L}{el:DRho->DQ->Prop}{K:List D->Tag->Prop}(g f:L->D)(U:∀a,a∈l->∀K:DQ,K (f a) Jb->dOR (λP=>el P K) (bq tg (g a) Δ))(k:K (l.map f) Jb):
  dcomp tg Δ s (λo0 K=>K Jc) el (l.map g) [] Jb K:=jO g f (· ∈l) U l [] (λa h=>h) k
theorem jr{L u:Type}(f:L->u)(l:List L)(a:L):l.map f++[f a]=(l++[a]).map f:=by rw[QD];rfl
theorem gN{L:Type}(f:Nat->L)(n:Nat):(Qc n).map f++[f n]=(Qc (n+1)).map f:=by rw[List.range_succ,QD];rfl
theorem dY(a b c:D):dsub (.tup [a,b,c]) (.int 0)=Ja a:=rfl
theorem jI(a b c:D):dsub (.tup [a,b,c]) (.int 1)=Ja b:=rfl
theorem jU(a b c:D):dsub (.tup [a,b,c]) (.int 2)=Ja c:=rfl
theorem dZ(a b:D):dsub (.tup [a,b]) (.int 0)=Ja a:=rfl
theorem gk(a b:D):dsub (.tup [a,b]) (.int 1)=Ja b:=rfl
theorem aY{K:D->Prop}(e:t=Ja v)(k:K v):dOD K t:=by subst e;exact k
theorem gx{K:List Int->Prop}(e:t=Ja v)(k:K v):oIs K t:=by subst e;exact k
theorem jW{K:List Bool->Prop}(e:t=Ja v)(k:K v):oBs K t:=by subst e;exact k
noncomputable def dP(p:Nat×Nat):D:= .tup [.int p.1,.int p.2]
noncomputable abbrev dI(l:List Int):D:= .list (l.map .int)
abbrev dT(t:List (List Int)):D:= .list (t.map dI)
noncomputable def dO:Option Int->D
 |some i=> .int i
 |none=> .none
abbrev dR(r:List (Option Int)):D:= .list (r.map dO)
abbrev dC(c:List (List (Option Int))):D:= .list (c.map dR)
theorem vp(l:List Int)(i:Int):dI (l++[i])= .list (l.map .int++[.int i]):=by
 show D.list (Ky _<|_++_)=_;rw[QD];rfl
theorem fH(l:List Int):dInts (l.map .int)=Ja l:=by
 induction l with
 |nil=>rfl
 |cons a l i=>show(dInts<|l.map .int).map (a:: ·)=_;rw[i];rfl
theorem d3{L:Type}(g:L->Int)(l:List L):dInts (l.map λa=> .int (g a))=Ja (l.map g):=by
 rw[show(l.map λa=>D.int<|g a)=(l.map g).map .int from(QE).symm];exact fH _
theorem dj{L:Type}(g:L->Bool)(l:List L):iY (l.map λa=> .bool (g a))=Ja (l.map g):=by
 induction l with
 |nil=>rfl
 |cons a l i=>show(iY (l.map λa=> .bool (g a))).map (g a:: ·)=_;rw[i];rfl
theorem hY{L:Type}(g:L->Bool)(l:List L):(l.map g).all id=l.all g:=by rw[List.all_map];rfl
theorem cP{L:Type}(f:L->D)(h:∀a,(f a).atom=Jc)(l:List L):D.atoms (l.map f)=Jc:=by
 induction l with
 |nil=>rfl
 |cons a l i=>show((f a).atom&&D.atoms (l.map f))=Jc;rw[h a,i];rfl
theorem yH(m:Nat):D.okds m []=Jc:=rfl
theorem cj{L:Type}(f:L->D)(h:∀a,(f a).okd m=Jc)(l:List L):D.okds m (l.map f)=Jc:=by
 induction l with
 |nil=>exact yH m
 |cons a l i=>show(D.okd m (f a)&&D.okds m (l.map f))=Jc;rw[h a,i];rfl
theorem dg(p:Nat×Nat):(dP p).atom=Jc:=rfl
theorem wH(p:Option Int):(dO p).atom=Jc:=by rcases p with⟨⟩<;>rfl
theorem oL(i:Int):(D.int i).atom=Jc:=rfl
structure Rect{α:Type}(t:List (List α))(h w:Nat):Prop where
 len:t.length=h
 row:∀r∈t,r.length=w
 h1:1<=h
 h8:h<=8
 w1:1<=w
 w8:w<=8
noncomputable def rowAt{L:Type}(t:List (List L))(i:Nat):List L:=t[i]?.getD []
def cell(t:List (List Int))(r c:Nat):Int:=(rowAt t r)[c]?.getD 0
theorem Rect.at_{L:Type}{t:List (List L)}(R:Rect t h w)(hi:i<h):t[i]? =Ja (rowAt t i)/\(rowAt t i).length=w:=by
 have:i<t.length:=by rw[R.len];exact hi
 rw[rowAt,Qi this];exact⟨rfl,R.row _<|Wo this⟩
theorem iw{t:List (List Int)}{h w:Nat}(R:Rect t h w){i:Nat}(hi:i<h):dsub (dT t) (.int i)=Ja (dI (rowAt t i)):=iW<|by rw[Qs,(R.at_ hi).1];rfl
theorem hZ(R:Rect t h w):dsub (dT t) (.int 0)=Ja (dI (rowAt t 0)):=iw R (i:=0) R.h1
theorem Rect.len0{t:List (List Int)}{h w:Nat}(R:Rect t h w):((rowAt t 0).map D.int).length=w:=by rw[Qd];exact(R.at_ R.h1).2
theorem Rect.lenD{t:List (List Int)}(R:Rect t h w):(t.map dI).length=h:=by rw[Qd];exact R.len
theorem jf{t:List (List Int)}{h w:Nat}(R:Rect t h w){i c:Nat}(hi:i<h)(C:c<w):dsub (dI (rowAt t i)) (.int c)=Ja (.int (cell t i c)):=by
 rw[gv (by exact QS _) (by rw[(R.at_ hi).2];exact Kf.mpr C)];rfl
theorem gp{r:List Int}(h:c<r.length):dsub (dI r) (.int c)=Ja (.int (r[c]?.getD 0)):=by
 rw[gv (by exact QS _) (by exact Kf.mpr h)];rfl
theorem dB(h:k<=1000):k<=lim:=Qn h<|by decide
theorem c6(h:k<1000):k<lim:=QJ h<|by decide
noncomputable def allF:Nat->Nat->List (Nat×Nat)
 |0,_=>[]
 |h+1,w=>allF h w++(Qc w).map λc=>(h,c)
theorem mw(h w:Nat):allF (h+1) w=allF h w++(Qc w).map λc=>(h,c):=rfl
theorem jt(h w:Nat):(allF h w).length=h*w:=by
 induction h with
 |zero=>rw[Nat.zero_mul];rfl
 |succ h i=>rw[mw,QG,i,Qd,QA,Nat.succ_mul]
theorem allF_mem{p:Nat×Nat}:p∈allF h w↔p.1<h/\p.2<w:=by
 induction h with
 |zero=>exact⟨λx=>(bQ x),λx=>absurd x.1 (Wd _)⟩
 |succ h i=>
  rw[mw,Qr,i,Ql]
  constructor
  ·rintro (⟨a,b⟩|⟨c,C,rfl⟩)
   ·exact⟨by exact Wy a,b⟩
   ·exact⟨QN _,Qf.mp C⟩
  ·rintro ⟨a,b⟩;by_cases q:p.1<h
   ·exact .inl ⟨q,b⟩
   ·exact .inr ⟨p.2,Qf.mpr b,by rw[<-show p.1=h by exact Yw (zs a) (Kc.mp q)]⟩
theorem tO(h w:Nat):(allF h w).map dP++((Qc w).map λ(c:Nat)=> .tup [.int h,.int c])=(allF (h+1) w).map dP:=by
 rw[mw,QD,QE];rfl
noncomputable def rsF(t:List (List Int)):List Int:=t.map Wn
noncomputable def csF(t:List (List Int))(w:Nat):List Int:=(Qc w).map λc=>(t.map λr=>r[c]?.getD 0).sum
theorem fU{tst:DRho->(Bool->Prop)->Prop}{el:DRho->DQ->Prop}{K:List D->Tag->Prop}(f:Nat->D)(p:Nat->Bool)
  (U:∀i,i<n->dOR (λP=>(∀T:Bool->Prop,T (p i)->tst P T)/\(p i=Jc->∀K:DQ,K (f i) Jb->el P K)) (bq tg (.int i) L))(k:K (((Qc n).filter p).map f) Jb):
  dcomp tg L t tst el ((Qc n).map λ(i:Nat)=> .int i) [] Jb K:=e9 (λ(i:Nat)=> .int i) f p (· <n) U _ [] (λa h=>Qf.mp h) k
theorem ca{L:Type}{l:List L}{tst:DRho->(Bool->Prop)->Prop}{el:DRho->DQ->Prop}{K:List D->Tag->Prop}(g f:L->D)(p:L->Bool)
  (U:∀a,a∈l->dOR (λP=>(∀T:Bool->Prop,T (p a)->tst P T)/\(p a=Jc->∀K:DQ,K (f a) Jb->el P K)) (bq tg (g a) j))(k:K ((l.filter p).map f) Jb):
  dcomp tg j t tst el (l.map g) [] Jb K:=e9 g f p (· ∈l) U _ [] (λa h=>h) k
noncomputable abbrev dL(l:List (List D)):D:= .list (l.map .list)
theorem AH(t:List (List (Option Int))):dC t=dL (t.map λr=>r.map dO):=by
 show D.list _=D.list (Ky _<|Ky _ _);rw[QE];rfl
def gridF(l:List (List D)):Bool:=decide (1<=l.length/\l.length<=8)&&(decide (1<=(rowAt l 0).length/\(rowAt l 0).length<=8)&&l.all λr=>decide (r.length=(rowAt l 0).length))
theorem Rect.grid{L:Type}{t:List (List L)}{h w:Nat}(R:Rect t h w)(f:L->D):gridF (t.map λr=>r.map f)=Jc:=by
 have b:rowAt (t.map λr=>r.map f) 0=(rowAt t 0).map f:=by
  rw[rowAt,Qs,(R.at_ R.h1).1];rfl
 have e:(rowAt (t.map λr=>r.map f) 0).length=w:=by rw[b,Qd];exact(R.at_ R.h1).2
 rw[gridF,e,Qd,R.len,Y6 ⟨R.h1,R.h8⟩,Y6 ⟨R.w1,R.w8⟩,Ym,Ym,Qv];intro r n;obtain⟨y,H,rfl⟩:=Ql.mp n;rw[Qd,R.row y H];exact Y6 rfl
def hidF(ps:List (Nat×Nat))(r c:Nat):Bool:=(ps.map dP).any λd=>D.eqv d<|dP (r,c)
def cellO(t:List (List Int))(h:Nat->Nat->Bool)(r c:Nat):Option Int:=cond (h r c) Jb<|Ja (cell t r c)
def cellsF(t:List (List Int))(i:Nat->Nat->Bool)(h w:Nat):List (List (Option Int)):=(Qc h).map λr=>(Qc w).map λc=>cellO t i r c
theorem pW(t:List (List Int))(h:Nat->Nat->Bool)(w j:Nat):dC (cellsF t h (j+1) w)= .list ((cellsF t h j w).map dR++[.list ((Qc w).map λ(c:Nat)=>dO (cellO t h j c))]):=by
 rw[show cellsF t h (j+1) w=cellsF t h j w++[(Qc w).map λc=>cellO t h j c] from(gN _ _).symm];show D.list (Ky dR<|_++_)=_;rw[QD];show D.list (_++[D.list (Ky _<|Ky _ _)])=_;rw[QE];rfl
abbrev viewF(t:List (List Int))(i:Nat->Nat->Bool)(h w:Nat):D:= .tup [dC (cellsF t i h w),dI<|rsF t,dI (csF t w)]
theorem lX{L:Type}(g:L->Option Int)(l:List L):dInts ((l.filter λa=>(g a).isSome).map λa=>dO (g a))=Ja (l.filterMap g):=by
 induction l with
 |nil=>rfl
 |cons a l W=>
  induction h:g a with
  |none=>rw[Ka (by rw[h];exact QC),W,List.filterMap_cons_none h]
  |some i=>
   rw[QZ (by rw[h];rfl),Qo,List.filterMap_cons_some h,h];show(dInts _).map (i:: ·)=_;rw[W];rfl
theorem nE{r:List (Option Int)}(h:c<r.length):dsub (dR r) (.int c)=Ja (dO (r[c]?.getD Jb)):=iW<|by rw[Qs,Qi h];rfl
theorem gD{t:List (List (Option Int))}{h w:Nat}(R:Rect t h w){i:Nat}(hi:i<h):dsub (dC t) (.int i)=Ja (dR (rowAt t i)):=iW<|by rw[Qs,(R.at_ hi).1];rfl
theorem lQ(R:Rect t h w):dsub (dC t) (.int 0)=Ja (dR (rowAt t 0)):=gD R (i:=0) R.h1
def r1F(c:List (List (Option Int)))(r:List Int)(k:Nat):Int:=r[k]?.getD 0-((rowAt c k).filterMap id).sum
noncomputable def r2F(c:List (List (Option Int)))(s:List Int)(k:Nat):Int:=s[k]?.getD 0-(c.filterMap λr=>r[k]?.getD Jb).sum
theorem eV(o:Option Int):iT (dO o)=Jd/\(dO o).isNone= !o.isSome:=by rcases o with⟨⟩<;>exact⟨rfl,rfl⟩
theorem rP{p:Prop}[Decidable p]{a b:Prop}(h:¬p->a)(N:p->b):cond (!decide p) a b:=kr N h
theorem j9{args:List E}(h:dwe G M (.call f args) L (λo0 o0=>dwss G M u r L Q X) λc l=>X c l L):dwss G M u (.expr (.call f args)::r) L Q X:= .inr h
theorem k6{args:List E}(h:dio G c f L (λP=>dwss G c u r P Q X) (spl L args)):dwss G c u (.expr (.call f args)::r) L Q X:= .inl h
def D.eqvs(a b:List D):Bool:=PyData.eqvAll (D.pys a)<|D.pys b
theorem vP(a b:List D):D.eqv (.tup a) (.tup b)=D.eqvs a b:=rfl
theorem jF(x y:D)(a b:List D):D.eqvs (x::a) (y::b)=(D.eqv x y&&D.eqvs a b):=rfl
theorem sN:D.eqvs [] []=Jc:=rfl
theorem AD(a b c d:D):D.eqv (.tup [a,b]) (.tup [c,d])=(D.eqv a c&&D.eqv b d):=by rw[vP,jF,jF,sN,Bool.and_true]
mutual
theorem c5:∀d:D,D.eqv d d=Jc
 | .none=>rfl
 | .bool b=>by rw[tm];exact beq_self_eq_true b
 | .int i=>by rw[bY];exact Y6 rfl
 | .str s=>by show(Qb s==Qb s)=Jc;exact beq_self_eq_true _
 | .tup l=>jV l
 | .list l=>jV l
 | .scr _=>rfl
 | .hole=>rfl
 | .inst _ _=>rfl
 | .dict _ _=>rfl
theorem jV:∀l:List D,D.eqvs l l=Jc
 |[]=>rfl
 |d::l=>by rw[jF,c5 d,jV l];rfl
end
theorem f7(m:Nat)(i:Int):D.okd m (.int i)=Jc:=by rcases m with⟨⟩<;>rfl
theorem eS(m:Nat)(l:List D):D.okd (m+1) (.list l)=D.okds m l:=rfl
theorem wf(m:Nat)(l:List D):D.okd (m+1) (.tup l)=D.okds m l:=rfl
theorem jH(m:Nat)(d:D)(l:List D):D.okds m (d::l)=(d.okd m&&D.okds m l):=rfl
theorem uu(m:Nat):D.okds m []=Jc:=rfl
def setF(t:List (List Int))(i j:Nat)(v:Int):List (List Int):=t.set i<|(rowAt t i).set j v
theorem Rect.set(R:Rect t h w)(hi:i<h):Rect (setF t i j v) h w:=by
 refine⟨by rw[setF,Ww];exact R.len,λr n=> ?_,R.h1,R.h8,R.w1,R.w8⟩
 rcases List.mem_or_eq_of_mem_set n with q|rfl
 ·exact R.row r q
 ·rw[Ww];exact(R.at_ hi).2
theorem t3(R:Rect t h w)(hi:i<h)(E:j<w)(a b:Nat):cell (setF t i j v) a b=if a=i/\b=j then v else cell t a b:=by
 have l:i<t.length:=by rw[R.len];exact hi
 have r:=(R.at_ hi).2;unfold cell rowAt setF;rw[KQ];by_cases T:i=a
 ·subst T;rw[Ua rfl,Ua l];show((rowAt t i).set j v)[b]?.getD 0=_;rw[KQ];by_cases H:j=b
  ·subst H;rw[Ua rfl,Ua<|by exact zq E r.symm,Ua ⟨rfl,rfl⟩];rfl
  ·rw[Y9 H,Y9 λq=>H q.2.symm];rfl
 ·rw[Y9 T,Y9 λq=>T q.1.symm]
theorem k7(R:Rect t h w):(∀r∈t,∀i∈r,0<=i)↔∀a b,a<h->b<w->0<=cell t a b:=by
 constructor
 ·intro N a b T v;have E:=(R.at_ T)
  have m:=QB E.1;refine N _ m _ ?_;rw[cell,Qi (by rw[E.2];exact v)];exact Wo _
 ·intro N r n i V;obtain⟨a,T,rfl⟩:=Wi n;obtain⟨b,v,rfl⟩:=Wi V;have:=N a b (by rw[<-R.len];exact T) (by rw[<-R.row _ n];exact v);rw[cell,rowAt,Qi T] at this;rw[show(Ja t[a]).getD []=t[a] from rfl,Qi v] at this;exact this
theorem x9{l:List D}(p:place l.length k=Ja j)(h:l[j]? =Ja v):dsub (.list l) (.int k)=Ja v:=by
 show((place l.length k).bind λj=>l[j]?)=_;rw[p];exact h
theorem uF(R:Rect t h w)(p:place h k=Ja i):dsub (dT t) (.int k)=Ja (dI (rowAt t i)):=by
 have V:i<h:=lg p;exact x9 (by rw[Qd,R.len];exact p)<|by rw[Qs,(R.at_ V).1];rfl
theorem z0{t:List (List Int)}(R:Rect t h w)(p:place h k=Ja i)(r:List Int):updp [.int k] (λo0=>Ja (dI r)) (dT t)=Ja (dT (t.set i r)):=by
 show(place (t.map dI).length k).bind (λj=>((t.map dI)[j]?).bind λx=>Wj (λy=>D.list<|(t.map dI).set j y)<|Ja (dI r))=_;rw[R.lenD,p];show((t.map dI)[i]?).bind (λx=>Ja<|D.list ((t.map dI).set i (dI r)))=_;rw[Qs,(R.at_<|lg p).1];show Ja (D.list<|(t.map dI).set i (dI r))=_;rw[<-YA]
section
variable{G:Gx}{cl cu:DCl}{Δ:DRho}{X:DX}{Qp:String->List D->D->Prop}
theorem kG(x):dpath G cl (.loc x) Δ Qp X=dOE (λp=>p.2=Jc/\Qp x [] p.1) (Δ.get x):=rfl
theorem sY(a i):dpath G cl (.sub a i) Δ Qp X=dpath G cl a Δ (λx ps n=>dwe G cl i Δ (λj o0=>isScr n=Jd/\dOD (λd=>Qp x (ps++[j]) d) (dsub n j)) X) X:=rfl
theorem yu{Q:bX}{X:DSX}{r:List S}{x:String}{s c e:E}{t:List (List Int)}{h w:Nat}(R:Rect t h w){ki kj:Int}{i j:Nat}{v:Int}(hx:Δ.get x=Ja (dT t,Jc))(hi:place h ki=Ja i)(H:place w kj=Ja j)
  (O:∀Q:D->DRho->Prop,Q (.int v) Δ->dwm G cl e Δ Q)(n:∀ (Q:DQ) X,Q (.int ki) Jb->dwe G cl s Δ Q X)(C:∀ (Q:DQ) X,Q (.int kj) Jb->dwe G cl c Δ Q X)
  (k:dwss G cl cu r (Δ.put x (dT<|setF t i j v,Jc)) Q X):dwss G cl cu (.setIdx (.sub (.loc x) s) c e::r) Δ Q X:=by
 refine n0<|O _ ?_;rw[sY,kG,hx,aK];refine⟨rfl,n _ _ ⟨rfl,?_⟩⟩;rw[uF R hi,cG];refine C _ _ ?_;rw[wK,vR,Qd,(R.at_<|lg hi).2,H,cB];show dOE _ (Δ.get x);rw[hx,aK];show dOD _ (updp [.int ki] (λo0=>Ja<|.list (((rowAt t i).map D.int).set j (.int v))) (dT t));rw[<-YA,show D.list (Ky D.int<|(rowAt t i).set j v)=dI ((rowAt t i).set j v) from rfl,z0 R hi,cG];exact k
end
theorem mo{a:Int}{b:Nat}(h:1<=b):∃i:Nat,a.fmod b=i/\i<b:=by
 obtain⟨N,p⟩:=eX (a:=a) (b:=b) (by exact Kf.mpr h);exact⟨(a.fmod b).toNat,by exact(WO N).symm,by exact(KT N).mpr p⟩
structure EnvD(tab:List Fn)(C:Cx)(G:Gx)(mg mb:Jq->Option Jf):Prop where
 g:GOK C G mg mb
 x:ExcOK C G mg mb
 ok:C.ok
 F:∀t∈tab,X4 λa o fd body=>FnAt C t.f t.ps t.b a o fd body
theorem FnAt.un{C:Cx}{d:Jr}(F:FnAt C f ps s a o d body):FnAt C.un f ps s a o d body:=
 ⟨⟨F.ho,F.hd,F.cd,F.hb,F.clo,F.glb,F.blt,F.bind,F.par,F.nd,F.co,F.gen,F.kind,F.free⟩,F.fv,F.kp,F.mat⟩
theorem EnvD.un{tab:List Fn}{C:Cx}{G:Gx}{mg mb:Jq->Option Jf}(e:EnvD tab C G mg mb):EnvD tab C.un G.un mg mb:=⟨e.g.un,e.x.un,e.ok,λt h=>by obtain⟨a,o,f,b,F⟩:=e.F t h;exact⟨a,o,f,b,F.un⟩⟩
section
variable{tab:List Fn}{C:Cx}{G:Gx}{mg mb:Jq->Option Jf}{n:Nat}
theorem EnvD.runs(e:EnvD tab C G mg mb)(t:Fn)(W:t∈tab):Runs G (aO C n) (aO C.un n) (aO C (n+1)) t.f t.ps t.ls t.b:=λE v Q X h w=>by
 obtain⟨a,o,f,b,F⟩:=e.F t W;exact AV (todoE e.g e.x) (ui e.g e.x) (todoE e.g.un e.x.un) (ui e.g.un e.x.un) e.g F t.ls h w
structure Gen(C:Cx)(n:Nat)(Q:D->Bool->Prop)(X:DX)(cl cu:DCl)(PQ:bX)(PX:DSX):Prop where
 hc:∀ {f as R Y},aR (aO C n) f as R Y->cl f as R Y
 io:∀ {f i as R},(aR<|aO C n).io f i as R->cl.io f i as R
 hu:∀ {f as R Y},aR (aO C.un n) f as R Y->cu f as R Y
 qn:∀ {Δ},Q .none Jc->PQ .next Δ
 qr:∀ {d b Δ},Q d b->PQ (.ret d b) Δ
 qx:∀ {c l Δ},X c l->PX c l Δ
theorem EnvD.fn(e:EnvD tab C G mg mb)(t:Fn)(W:t∈tab){args:List (D×Bool)}{Q:D->Bool->Prop}(h:t.ps.length=args.length)
  (w:∀l c P PX,Gen C n Q X l c P PX->dwss G l c t.b (drho0 t.ps t.ls args) P PX):aR (aO C<|n+1) t.f args Q X:=zo h (w _ _ _ _ ⟨id,id,id,id,id,id⟩)<|e.runs t W
theorem EnvD.fnI(e:EnvD tab C G mg mb)(t:Fn)(W:t∈tab){args:List (D×Bool)}{Q:D->Prop}{x:String}{i:Nat}(h:t.ps.length=args.length)(o:t.ps.Nodup)(hx:t.ps[i]? =Ja x)(a:S.noass x t.b=Jc)
  (w:dwss G (aR<|aO C n) (aR<|aO C.un n) t.b (drho0 t.ps t.ls args) (dendI x Q) λo0 o0 o0=>False):(aR<|aO C (n+1)).io t.f i args Q:=vA h o hx a w<|e.runs t W
end
section
variable{C:Cx}{G:Gx}{mg mb:Jq->Option Jf}{n:Nat}
theorem xa(g:GOK C G mg mb)(T:Todo C G n){c:Cls}(K:ClsC C c)(s:c.as=[a1])(p:c.es=[.loc a1,e2])(hs:"self"≠a1){d:D}{Q:D->Bool->Prop}
  (w:dwe G (aR<|aO C n) e2 [("self",Jb),(a1,Ja (d,Jd))] (λB L=>L=Jb/\Q (.inst c.nm [d,B]) Jc) λo0 o0=>False):aR (aO C<|n+2) c.nm [(d,Jc)] Q X:=by
 intro t vs Fs Q' X' J k kx;cases J with
 |@cons _ _ v F _ ac ab r nd _ J=>
 cases J;obtain⟨a,i,fv,S,fl,o0⟩:=K;obtain⟨fI,N,F0,o0,o0,o0,o0,o0,ne,o0,j⟩:=S;obtain⟨oI,fd,A,Fn,Z,hm⟩:=F0;refine pY g i fv N.kp N Fn Z hm fl ne j (λe o0=>bM T g e) (by rw[s];rfl) [] λx hx=> ?_;rw[p,s];have Y:(rho0 ["self",a1] [] [.ref x,v]).get a1=Ja v:=(Y9 hs).trans (Ua rfl);show oV _ ((rho0 ["self",a1] [] [.ref x,v]).get a1);rw[Y];have ee:EnvE t [("self",Jb),(a1,Ja (d,Jd))] (rho0 ["self",a1] [] [.ref x,v]) (λy=>if y=a1 then F else []):=by
  refine⟨λy d' b e=> ?_,λy a H=> ?_,rfl⟩
  ·by_cases q:y=a1
   ·subst y;have e1:DRho.get [("self",Jb),(a1,Ja (d,Jd))] a1=Ja (d,Jd):=by
     rw[get_c,beq_eq_false_iff_ne.mpr hs,get_c,beq_self_eq_true];rfl
    obtain⟨rfl,rfl⟩:=Prod.mk.inj<|sj (e1.symm.trans e);exact⟨v,Y,by rw[Ua rfl];exact r⟩
   ·rw[get_c,get_c,beq_eq_false_iff_ne.mpr (Ne.symm q)] at e;by_cases z:("self"==y)=Jc
    ·rw[z] at e;exact ns e
    ·rw[WC.mpr z] at e;exact ns e
  ·by_cases q:y=a1
   ·rw[Ua q] at H;exact r.dom a H
   ·rw[Y9 q] at H;cases H
 refine bk e2 _ _ _ t _ (λo0 o0=>False) _ _ ee w (λB L R O P l W=> ?_) λo0 o0 o0 o0 o0 h o0=>h.elim;intro f I h1 h2 U;obtain⟨rfl,l⟩:=l;have V:Ext O ((O.set f<|.fd c.nm [v,R]).set I (.inst f)):=(Ext.set h1 _).trans (Ext.set ((PH.set_ne _ _<|Ne.symm U).trans h2) _);have M:=W.part.own rfl;have m:∀a∈F,a∈owned [(d,Jc)] [F]:=λa H=>Qk _ H;have u:Ext t ((O.set f<|.fd c.nm [v,R]).set I (.inst f)):=W.ext.trans V;refine k (.inst c.nm [d,B]) Jc (.ref I) _ (F++P) l ⟨⟨I,f,[v,R],rfl,PH.set_same _ _ _,(PH.set_ne _ _ U).trans (PH.set_same _ _ _),v,[R],F,P,rfl,rfl,r.ext u,R,[],P,[],rfl,(QH _).symm,W.rd.ext V,rfl,rfl⟩,λa o e o0=>u a o e,λo0=>⟨?_,λa H=> ?_⟩,λa H=> ?_⟩
 ·refine Qu.mpr ⟨nd rfl,M.1,λa H b hb q=> ?_⟩;subst q;obtain⟨o,e⟩:=r.dom a H;exact ns<|(M.2 a hb).symm.trans e
 ·rcases Qr.mp H with H|H
  ·exact .inr<|m a H
  ·exact .inl<|M.2 a H
 ·rcases Qr.mp H with H|H
  ·exact .inr<|Qk _ H
  ·exact .inl<|M.2 a H
theorem up(g:GOK C G mg mb)(T:Todo C G n){c:Cls}(K:ClsC C c)(s:c.as=[a1])(p:c.es=[.loc a1,e2])(l:"self"≠a1){d:D}{Q:D->Bool->Prop}
  (w:dwe G (aR<|aO C n) e2 [("self",Jb),(a1,Ja (d,Jd))] (λB W=>W=Jb/\Q (.inst c.nm [d,B]) Jd) λo0 o0=>False):aR (aO C<|n+2) c.nm [(d,b)] Q X:=by
 intro t vs Fs Q' X' J k kx;cases J with
 |@cons _ _ v F _ ac ab r nd _ J=>
 cases J;obtain⟨a,i,fv,S,fl,o0⟩:=K;obtain⟨fI,N,F0,o0,o0,o0,o0,o0,ne,o0,j⟩:=S;obtain⟨oI,fd,A,Fn,Z,hm⟩:=F0;refine pY g i fv N.kp N Fn Z hm fl ne j (λe o0=>bM T g e) (by rw[s];rfl) [] λx hx=> ?_;rw[p,s];have Y:(rho0 ["self",a1] [] [.ref x,v]).get a1=Ja v:=(Y9 l).trans (Ua rfl);show oV _ ((rho0 ["self",a1] [] [.ref x,v]).get a1);rw[Y];have ee:EnvE t [("self",Jb),(a1,Ja (d,Jd))] (rho0 ["self",a1] [] [.ref x,v]) (λy=>if y=a1 then F else []):=by
  refine⟨λy d' b e=> ?_,λy a H=> ?_,rfl⟩
  ·by_cases q:y=a1
   ·subst y;have e1:DRho.get [("self",Jb),(a1,Ja (d,Jd))] a1=Ja (d,Jd):=by
     rw[get_c,beq_eq_false_iff_ne.mpr l,get_c,beq_self_eq_true];rfl
    obtain⟨rfl,rfl⟩:=Prod.mk.inj<|sj (e1.symm.trans e);exact⟨v,Y,by rw[Ua rfl];exact r⟩
   ·rw[get_c,get_c,beq_eq_false_iff_ne.mpr (Ne.symm q)] at e;by_cases z:("self"==y)=Jc
    ·rw[z] at e;exact ns e
    ·rw[WC.mpr z] at e;exact ns e
  ·by_cases q:y=a1
   ·rw[Ua q] at H;exact r.dom a H
   ·rw[Y9 q] at H;cases H
 refine bk e2 _ _ _ t _ (λo0 o0=>False) _ _ ee w (λB W R O P m M=> ?_) λo0 o0 o0 o0 o0 h o0=>h.elim;intro f I h1 h2 U;obtain⟨rfl,m⟩:=m;have V:Ext O ((O.set f<|.fd c.nm [v,R]).set I (.inst f)):=(Ext.set h1 _).trans (Ext.set ((PH.set_ne _ _<|Ne.symm U).trans h2) _);have L:=M.part.own rfl;have u:Ext t ((O.set f<|.fd c.nm [v,R]).set I (.inst f)):=M.ext.trans V;refine k (.inst c.nm [d,B]) Jd (.ref I) _ (F++P) m ⟨⟨I,f,[v,R],rfl,PH.set_same _ _ _,(PH.set_ne _ _ U).trans (PH.set_same _ _ _),v,[R],F,P,rfl,rfl,r.ext u,R,[],P,[],rfl,(QH _).symm,M.rd.ext V,rfl,rfl⟩,λa o e o0=>u a o e,λq=>ft q,λa H=> ?_⟩
 rcases Qr.mp H with H|H
 ·exact .inr<|Qk _ H
 ·exact .inl<|L.2 a H
theorem sD(g:GOK C G mg mb)(T:Todo C G n){c:Cls}(K:ClsC C c)(s:c.as=[a1,a2,a3])(O:c.es=[.loc a1,.loc a2,.loc a3])(I:["self",a1,a2,a3].Nodup){d1 d B:D}{Q:D->Bool->Prop}
  (w:Q (.inst c.nm [d1,d,B]) Jd):aR (aO C<|n+2) c.nm [(d1,u),(d,b2),(B,b3)] Q X:=by
 intro t vs Fs Q' X' r k kx;cases r with
 |@cons _ _ f L _ _ _ m ab _ r=>
 cases r with
 |@cons _ _ b F _ _ _ M R _ r=>
 cases r with
 |@cons _ _ v z _ _ _ p Y _ r=>
 cases r;obtain⟨a,i,fv,S,fl,o0⟩:=K;obtain⟨fI,N,W,o0,o0,o0,o0,o0,ne,o0,j⟩:=S;obtain⟨oI,fd,y,Fn,Z,hm⟩:=W;refine pY g i fv N.kp N Fn Z hm fl ne j (λe o0=>bM T g e) (by rw[s];rfl) [] λx hx=> ?_;rw[O,s];simp only[Qx,Qw,Kx,or_false,not_or] at I;obtain⟨⟨n1,n2,J⟩,⟨n4,l⟩,n6,o0⟩:=I;have g1:(rho0 ["self",a1,a2,a3] [] [.ref x,f,b,v]).get a1=Ja f:=(Y9 n1).trans (Ua rfl);have A:(rho0 ["self",a1,a2,a3] [] [.ref x,f,b,v]).get a2=Ja b:=(Y9 n2).trans ((Y9 n4).trans (Ua rfl));have V:(rho0 ["self",a1,a2,a3] [] [.ref x,f,b,v]).get a3=Ja v:=(Y9 J).trans ((Y9 l).trans ((Y9 n6).trans (Ua rfl)));show oV _ ((rho0 ["self",a1,a2,a3] [] [.ref x,f,b,v]).get a1);rw[g1];show oV _ ((rho0 ["self",a1,a2,a3] [] [.ref x,f,b,v]).get a2);rw[A];show oV _ ((rho0 ["self",a1,a2,a3] [] [.ref x,f,b,v]).get a3);rw[V];intro U E h1 h2 h;have P:Ext t ((t.set U<|.fd c.nm [f,b,v]).set E (.inst U)):=(Ext.set h1 _).trans (Ext.set ((PH.set_ne _ _<|Ne.symm h).trans h2) _);exact k (.inst c.nm [d1,d,B]) Jd (.ref E) _ (L++(F++(z++[]))) w ⟨⟨E,U,[f,b,v],rfl,PH.set_same _ _ _,(PH.set_ne _ _ h).trans (PH.set_same _ _ _),f,[b,v],L,_,rfl,rfl,m.ext P,b,[v],F,_,rfl,rfl,M.ext P,v,[],z,[],rfl,rfl,p.ext P,rfl,rfl⟩,λa o e o0=>P a o e,λq=>ft q,λa H=> .inr H⟩
end
noncomputable def ip:Fn:=⟨"near_of",["places"],["found","place"],
 [.assign (.name "found") (.dict0),
  .for_ (.name "place") .val [.loc "places"] [.expr (.meth (.sd (.loc "found")<|.tup [.glob "ROW",.sub (.loc "place") (.int 0)]) .append [.tup [.tup [.glob "COLUMN",.sub (.loc "place") (.int 1)],.loc "place"]]),.expr (.meth (.sd (.loc "found")<|.tup [.glob "COLUMN",.sub (.loc "place") (.int 1)]) .append [.tup [.tup [.glob "ROW",.sub (.loc "place") (.int 0)],.loc "place"]])],
  .ret (.loc "found")]⟩
noncomputable def fz:Fn:=⟨"reached",["near","counts","starts","banned"],["came","waiting","start","at","here","other","place"],
 [.assign (.name "came") (.dict0),
  .assign (.name "waiting") (.list []),
  .for_ (.name "start") .val [.loc "starts"] [.setIdx (.loc "came") (.loc "start") (.none),.expr (.meth (.loc "waiting") .append [.loc "start"])],
  .assign (.name "at") (.int 0),
  .while_ (.cmp .lt (.loc "at")<|.bi .len [.loc "waiting"]) [.assign (.name "here") (.sub (.loc "waiting")<|.loc "at"),.assign (.name "at")<|.bin .add (.loc "at") (.int 1),.for_ (.tup ["other","place"]) .val [.get (.loc "near") (.loc "here")] [.if_ (.and_ (.cmp .nin (.loc "other")<|.loc "came")<|.and_ (.cmp .ne (.loc "place")<|.loc "banned") (.or_ (.cmp .eq (.sub (.loc "here")<|.int 0)<|.glob "ROW")<|.cmp (.gt ()) (.sub (.loc "counts")<|.loc "place") (.int 0))) [.setIdx (.loc "came") (.loc "other") (.tup [.loc "here",.loc "place"]),.expr (.meth (.loc "waiting") .append [.loc "other"])] []]],
  .ret (.loc "came")]⟩
noncomputable def jh:Fn:=⟨"way_to",["came","goal"],["raised","lowered","here","ahead","place"],
 [.assign (.name "raised") (.list []),
  .assign (.name "lowered") (.list []),
  .assign (.name "here") (.loc "goal"),
  .while_ (.notNone<|.sub (.loc "came") (.loc "here")) [.assign (.tup ["ahead","place"]) (.sub (.loc "came")<|.loc "here"),.if_ (.cmp .eq (.sub (.loc "here")<|.int 0)<|.glob "COLUMN") [.expr (.meth (.loc "raised") .append [.loc "place"])] [.expr (.meth (.loc "lowered") .append [.loc "place"])],.assign (.name "here") (.loc "ahead")],
  .ret (.tup [.loc "raised",.loc "lowered",.loc "here"])]⟩
noncomputable def na:Fn:=⟨"move",["counts","raised","lowered","amount"],["place"],
 [.for_ (.name "place") .val [.loc "raised"] [.setIdx (.loc "counts") (.loc "place") (.bin .add (.sub (.loc "counts") (.loc "place")) (.loc "amount"))],
  .for_ (.name "place") .val [.loc "lowered"] [.setIdx (.loc "counts") (.loc "place") (.bin .sub (.sub (.loc "counts") (.loc "place")) (.loc "amount"))]]⟩
noncomputable def fh:Fn:=⟨"numbers_of",["came","kind"],[],
 [.ret (.bi .sorted [.compIf (.loc "number") (.tup ["word","number"]) .val [.bi .list [.loc "came"]] (.cmp .eq (.loc "word") (.loc "kind"))])]⟩
noncomputable def eC:Fn:=⟨"is_count",["thing"],[],
 [.ret (.and_ (.isi (.loc "thing") ["int"]) (.and_ (.not_ (.isi (.loc "thing") ["bool"])) (.cmp .ge (.loc "thing") (.int 0))))]⟩
noncomputable def iE:Fn:=⟨"is_grid",["thing"],[],
 [.if_ (.or_ (.not_ (.isi (.loc "thing") ["list"])) (.not_ (.cmp2 (.int 1) .le (.bi .len [.loc "thing"]) .le (.glob "MOST")))) [.ret (.bool Jd)] [],
  .if_ (.or_ (.not_<|.bi .all [.comp (.isi (.loc "row") ["list"]) (.name "row") .val [.loc "thing"]])<|.not_ (.cmp2 (.int 1) .le (.bi .len [.sub (.loc "thing") (.int 0)]) .le<|.glob "MOST")) [.ret (.bool Jd)] [],
  .ret (.bi .all [.comp (.cmp .eq (.bi .len [.loc "row"]) (.bi .len [.sub (.loc "thing") (.int 0)])) (.name "row") .val [.loc "thing"]])]⟩
noncomputable def fj:Fn:=⟨"are_counts",["row"],[],
 [.ret (.bi .all [.comp (.call "is_count" [.loc "count"]) (.name "count") .val [.loc "row"]])]⟩
noncomputable def gR:Fn:=⟨"is_table",["thing"],[],
 [.ret (.and_ (.call "is_grid" [.loc "thing"]) (.bi .all [.comp (.call "are_counts" [.loc "row"]) (.name "row") .val [.loc "thing"]]))]⟩
noncomputable def fg:Fn:=⟨"need_table",["thing"],[],
 [.if_ (.not_ (.call "is_table" [.loc "thing"])) [.raise "BadTable" [.str "no table"]] []]⟩
noncomputable def eP:Fn:=⟨"need_number",["thing"],[],
 [.if_ (.or_ (.not_ (.call "is_count" [.loc "thing"])) (.cmp .eq (.loc "thing") (.int 0))) [.raise "BadNumber" [.str "no number from 1 on"]] []]⟩
noncomputable def iz:Fn:=⟨"sums_of",["table"],["columns"],
 [.assign (.name "columns") (.comp (.bi .sum [.comp (.sub (.loc "row") (.loc "column")) (.name "row") .val [.loc "table"]]) (.name "column") .range [.bi .len [.sub (.loc "table") (.int 0)]]),
  .ret (.tup [.comp (.bi .sum [.loc "row"]) (.name "row") .val [.loc "table"],.loc "columns"])]⟩
noncomputable def fS:Fn:=⟨"places_of",["grid"],["found","row","column"],
 [.assign (.name "found") (.list []),
  .for_ (.name "row") .range [.bi .len [.loc "grid"]] [.for_ (.name "column") .range [.bi .len [.sub (.loc "grid") (.int 0)]] [.expr (.meth (.loc "found") .append [.tup [.loc "row",.loc "column"]])]],
  .ret (.loc "found")]⟩
noncomputable def gL:Fn:=⟨"is_small",["table","place","bound"],[],
 [.ret (.cmp2 (.int 1) .le (.sub (.sub (.loc "table") (.sub (.loc "place") (.int 0))) (.sub (.loc "place") (.int 1))) .le (.loc "bound"))]⟩
noncomputable def gH:Fn:=⟨"rests_of",["view"],["cells","rows","columns","found","others","k"],
 [.assign (.tup ["cells","rows","columns"]) (.loc "view"),
  .assign (.name "found") (.comp (.bin .sub (.sub (.loc "rows")<|.loc "k")<|.bi .sum [.compIf (.loc "count") (.name "count") .val [.sub (.loc "cells") (.loc "k")] (.notNone<|.loc "count")]) (.name "k") .range [.bi .len [.loc "rows"]]),
  .assign (.name "others") (.list []),
  .for_ (.name "k") .range [.bi .len [.loc "columns"]] [.expr (.meth (.loc "others") .append [.bin .sub (.sub (.loc "columns")<|.loc "k") (.bi .sum [.compIf (.sub (.loc "row")<|.loc "k") (.name "row") .val [.loc "cells"] (.notNone<|.sub (.loc "row") (.loc "k"))])])],
  .ret (.tup [.loc "found",.loc "others"])]⟩
noncomputable def gG:Fn:=⟨"are_sums",["thing","many"],[],
 [.ret (.and_ (.isi (.loc "thing") ["list"]) (.and_ (.cmp .eq (.bi .len [.loc "thing"]) (.loc "many")) (.bi .all [.comp (.call "is_count" [.loc "one"]) (.name "one") .val [.loc "thing"]])))]⟩
noncomputable def iq:Fn:=⟨"is_view",["thing"],["row","rows","columns"],
 [.if_ (.or_ (.not_ (.isi (.loc "thing") ["tuple"])) (.or_ (.cmp .ne (.bi .len [.loc "thing"]) (.int 3)) (.not_ (.call "is_grid" [.sub (.loc "thing") (.int 0)])))) [.ret (.bool Jd)] [],
  .for_ (.name "row") .val [.sub (.loc "thing") (.int 0)] [.if_ (.not_<|.bi .all [.comp (.or_ (.isNone<|.loc "count")<|.call "is_count" [.loc "count"]) (.name "count") .val [.loc "row"]]) [.ret (.bool Jd)] []],
  .if_ (.or_ (.not_<|.call "are_sums" [.sub (.loc "thing") (.int 1),.bi .len [.sub (.loc "thing") (.int 0)]])<|.not_ (.call "are_sums" [.sub (.loc "thing") (.int 2),.bi .len [.sub (.sub (.loc "thing")<|.int 0) (.int 0)]])) [.ret (.bool Jd)] [],
  .assign (.tup ["rows","columns"]) (.call "rests_of" [.loc "thing"]),
  .ret (.and_ (.cmp .ge (.bi .min [.loc "rows"]) (.int 0)) (.and_ (.cmp .ge (.bi .min [.loc "columns"]) (.int 0)) (.cmp .eq (.bi .sum [.loc "rows"]) (.bi .sum [.loc "columns"]))))]⟩
noncomputable def f8:Fn:=⟨"need_view",["thing"],[],
 [.if_ (.not_ (.call "is_view" [.loc "thing"])) [.raise "BadView" [.str "no view"]] []]⟩
noncomputable def gP:Fn:=⟨"is_place",["thing","grid"],[],
 [.if_ (.or_ (.not_ (.isi (.loc "thing") ["tuple"])) (.or_ (.cmp .ne (.bi .len [.loc "thing"]) (.int 2)) (.or_ (.not_ (.call "is_count" [.sub (.loc "thing") (.int 0)])) (.not_ (.call "is_count" [.sub (.loc "thing") (.int 1)]))))) [.ret (.bool Jd)] [],
  .ret (.and_ (.cmp .lt (.sub (.loc "thing") (.int 0)) (.bi .len [.loc "grid"])) (.cmp .lt (.sub (.loc "thing") (.int 1)) (.bi .len [.sub (.loc "grid") (.int 0)])))]⟩
noncomputable def mz:Fn:=⟨"seen",["table","places"],["cells","row","column","sums"],
 [.assign (.name "cells") (.comp (.bi .list [.loc "row"]) (.name "row") .val [.loc "table"]),
  .for_ (.tup ["row","column"]) .val [.loc "places"] [.setIdx (.sub (.loc "cells")<|.loc "row") (.loc "column") (.none)],
  .assign (.name "sums") (.call "sums_of" [.loc "table"]),
  .ret (.tup [.loc "cells",.sub (.loc "sums") (.int 0),.sub (.loc "sums") (.int 1)])]⟩
noncomputable def fT:Fn:=⟨"hidden_in",["cells"],[],
 [.ret (.compIf (.loc "place") (.name "place") .val [.call "places_of" [.loc "cells"]] (.isNone (.sub (.sub (.loc "cells") (.sub (.loc "place") (.int 0))) (.sub (.loc "place") (.int 1)))))]⟩
noncomputable def fV:Fn:=⟨"counts_of",["view"],["places","near","counts","place","rows","columns","came","goals","raised","lowered","start","amount"],
 [.assign (.name "places") (.call "hidden_in" [.sub (.loc "view") (.int 0)]),
  .assign (.name "near") (.call "near_of" [.loc "places"]),
  .assign (.name "counts") (.dict0),
  .for_ (.name "place") .val [.loc "places"] [.setIdx (.loc "counts") (.loc "place") (.int 0)],
  .assign (.tup ["rows","columns"]) (.call "rests_of" [.loc "view"]),
  .while_ (.cmp (.gt ()) (.bi .sum [.loc "rows"])<|.int 0) [.assign (.name "came") (.call "reached" [.loc "near",.loc "counts",.compIf (.tup [.glob "ROW",.loc "k"]) (.name "k") .range [.bi .len [.loc "rows"]] (.cmp (.gt ()) (.sub (.loc "rows")<|.loc "k")<|.int 0),.none]),.assign (.name "goals")<|.compIf (.loc "k") (.name "k") .val [.call "numbers_of" [.loc "came",.glob "COLUMN"]] (.cmp (.gt ()) (.sub (.loc "columns")<|.loc "k")<|.int 0),.if_ (.cmp .eq (.loc "goals")<|.list []) [.raise "NoTable" [.call "numbers_of" [.loc "came",.glob "ROW"],.call "numbers_of" [.loc "came",.glob "COLUMN"]]] [],.assign (.tup ["raised","lowered","start"])<|.call "way_to" [.loc "came",.tup [.glob "COLUMN",.sub (.loc "goals") (.int 0)]],.assign (.name "amount")<|.bi .min [.bin .add (.list [.sub (.loc "rows") (.sub (.loc "start")<|.int 1),.sub (.loc "columns") (.sub (.loc "goals")<|.int 0)]) (.comp (.sub (.loc "counts")<|.loc "place") (.name "place") .val [.loc "lowered"])],.expr<|.call "move" [.loc "counts",.loc "raised",.loc "lowered",.loc "amount"],.setIdx (.loc "rows") (.sub (.loc "start")<|.int 1)<|.bin .sub (.sub (.loc "rows")<|.sub (.loc "start") (.int 1)) (.loc "amount"),.setIdx (.loc "columns") (.sub (.loc "goals")<|.int 0) (.bin .sub (.sub (.loc "columns")<|.sub (.loc "goals") (.int 0))<|.loc "amount")],
  .ret (.loc "counts")]⟩
noncomputable def eO:Fn:=⟨"with_counts",["view","counts"],["table","row","column"],
 [.assign (.name "table") (.comp (.bi .list [.loc "row"]) (.name "row") .val [.sub (.loc "view") (.int 0)]),
  .for_ (.tup ["row","column"]) .val [.bi .list [.loc "counts"]] [.setIdx (.sub (.loc "table")<|.loc "row") (.loc "column") (.sub (.loc "counts")<|.tup [.loc "row",.loc "column"])],
  .ret (.loc "table")]⟩
noncomputable def f5:Fn:=⟨"bounds_at",["view","place"],[],
 [.expr (.call "need_view" [.loc "view"]),
  .if_ (.or_ (.not_<|.call "is_place" [.loc "place",.sub (.loc "view") (.int 0)])<|.cmp .nin (.loc "place") (.call "hidden_in" [.sub (.loc "view") (.int 0)])) [.raise "BadPlace" [.str "no hidden place"]] [],
  .ret (.call "Bounds" [.call "counts_of" [.loc "view"]])]⟩
noncomputable def m8:Fn:=⟨"ends",["view","place"],["bounds","low","high"],
 [.assign (.name "bounds") (.call "bounds_at" [.loc "view",.loc "place"]),
  .assign (.name "low") (.sub (.mcall "Bounds" "Bounds.least" (.loc "bounds") [.loc "place",.none])<|.int 0),
  .assign (.name "high") (.sub (.mcall "Bounds" "Bounds.greatest" (.loc "bounds") [.loc "place",.none])<|.int 0),
  .ret (.tup [.call "with_counts" [.loc "view",.loc "low"],.call "with_counts" [.loc "view",.loc "high"]])]⟩
noncomputable def nv:Fn:=⟨"hide",["table","bound","width"],["hider","first","places","road","others","view","pairs","place","low","high"],
 [.expr (.call "need_table" [.loc "table"]),
  .expr (.call "need_number" [.loc "bound"]),
  .expr (.call "need_number" [.loc "width"]),
  .assign (.name "hider") (.call "Hider" [.loc "table",.loc "bound",.loc "width"]),
  .assign (.name "first") (.compIf (.loc "place") (.name "place") .val [.call "places_of" [.loc "table"]] (.mcall "Hider" "Hider.small" (.loc "hider") [.loc "place"])),
  .if_ (.cmp .eq (.loc "first")<|.list []) [.ret (.tup [.list [],.list [],.list [],.list []])] [],
  .assign (.tup ["places","road"]) (.mcall "Hider" "Hider.peeled" (.loc "hider") [.call "places_of" [.loc "table"]]),
  .if_ (.isNone<|.loc "places") [.raise "NotHidden" [.loc "road"]] [],
  .assign (.name "places") (.mcall "Hider" "Hider.fewest" (.loc "hider") [.loc "places"]),
  .assign (.name "others") (.compIf (.loc "place") (.name "place") .val [.loc "places"] (.not_<|.mcall "Hider" "Hider.small" (.loc "hider") [.loc "place"])),
  .assign (.name "view") (.call "seen" [.loc "table",.loc "places"]),
  .assign (.name "pairs") (.list []),
  .for_ (.name "place") .val [.loc "places"] [.assign (.tup ["low","high"]) (.call "ends" [.loc "view",.loc "place"]),.expr (.meth (.loc "pairs") .append [.tup [.loc "place",.loc "low",.loc "high"]])],
  .ret (.tup [.loc "first",.loc "others",.loc "pairs",.comp (.tup [.loc "place",.sub (.mcall "Hider" "Hider.without" (.loc "hider") [.loc "places",.loc "place"]) (.int 1)]) (.name "place") .val [.loc "others"]])]⟩
noncomputable def f__law_mix:Fn:=⟨"_law_mix",["_law_script","_law_k"],["_law_cell","_law_number"],
 [.assign (.name "_law_cell") (.int 0),
  .if_ (.cmp (.gt ()) (.bi .len [.loc "_law_script"])<|.int 0) [.assign (.name "_law_cell") (.bin .add (.sub (.loc "_law_script")<|.bin .mod (.loc "_law_k") (.bi .len [.loc "_law_script"]))<|.bin .fdiv (.loc "_law_k") (.bi .len [.loc "_law_script"]))] [],
  .assign (.name "_law_number") (.bin .mod (.bin .mul (.bin .add (.loc "_law_cell")<|.bin .mul (.int 7919) (.bin .add (.loc "_law_k")<|.int 1))<|.int 48271)<|.int 2147483647),
  .ret (.bin .mod (.bin .mul (.loc "_law_number") (.loc "_law_number")) (.int 2147483629))]⟩
noncomputable def eZ:Fn:=⟨"_law_count",["_law_script","_law_k"],["_law_number","_law_more","_law_some"],
 [.assign (.name "_law_number") (.call "_law_mix" [.loc "_law_script",.loc "_law_k"]),
  .assign (.name "_law_more") (.bin .fdiv (.loc "_law_number")<|.int 8),
  .if_ (.cmp .eq (.bin .mod (.loc "_law_number")<|.int 8)<|.int 0) [.ret (.int 0)] [],
  .assign (.name "_law_some") (.list [.bin .mod (.loc "_law_more") (.int 3),.bin .mod (.loc "_law_more")<|.int 5,.bin .mod (.loc "_law_more")<|.int 12,.sub (.list [.int 0,.int 1,.int 2,.int 40])<|.bin .mod (.loc "_law_more") (.int 4),.bin .mod (.loc "_law_more")<|.int 1000,.bin .add (.bin .mul (.loc "_law_more")<|.bin (.pow ()) (.int 10) (.int 11)) (.bin .mod (.loc "_law_more")<|.int 7)]),
  .ret (.sub (.loc "_law_some") (.bin .mod (.call "_law_mix" [.loc "_law_script",.int 2]) (.int 6)))]⟩
noncomputable def f__law_sides:Fn:=⟨"_law_sides",["_law_script"],["_law_number","_law_high","_law_wide"],
 [.assign (.name "_law_number") (.call "_law_mix" [.loc "_law_script",.int 5]),
  .assign (.name "_law_high") (.bin .add (.int 2)<|.bin .mod (.call "_law_mix" [.loc "_law_script",.int 0]) (.int 3)),
  .assign (.name "_law_wide") (.bin .add (.int 2)<|.bin .mod (.call "_law_mix" [.loc "_law_script",.int 1]) (.int 3)),
  .if_ (.cmp .eq (.bin .mod (.loc "_law_number")<|.int 9)<|.int 0) [.assign (.tup ["_law_high","_law_wide"]) (.sub (.list [.tup [.int 5,.bin .add (.int 2) (.bin .mod (.loc "_law_wide")<|.int 2)],.tup [.bin .add (.int 2) (.bin .mod (.loc "_law_high")<|.int 2),.int 5]])<|.bin .mod (.bin .fdiv (.loc "_law_number")<|.int 9) (.int 2))] [],
  .if_ (.cmp .eq (.bin .mod (.bin .fdiv (.loc "_law_number")<|.int 64)<|.int 9)<|.int 0) [.assign (.tup ["_law_high","_law_wide"]) (.sub (.list [.tup [.int 1,.bin .add (.int 1) (.bin .mod (.bin .fdiv (.loc "_law_number")<|.int 1152)<|.int 8)],.tup [.bin .add (.int 1) (.bin .mod (.bin .fdiv (.loc "_law_number")<|.int 1152)<|.int 8),.int 1]])<|.bin .mod (.bin .fdiv (.loc "_law_number")<|.int 576) (.int 2))] [],
  .ret (.tup [.loc "_law_high",.loc "_law_wide"])]⟩
noncomputable def dh:Fn:=⟨"_law_hide_count",["_law_script","_law_k"],["_law_number","_law_more","_law_some"],
 [.assign (.name "_law_number") (.call "_law_mix" [.loc "_law_script",.loc "_law_k"]),
  .assign (.name "_law_more") (.bin .fdiv (.loc "_law_number")<|.int 8),
  .if_ (.cmp .eq (.bin .mod (.bin .fdiv (.call "_law_mix" [.loc "_law_script",.int 2])<|.int 6)<|.int 9)<|.int 0) [.ret (.call "_law_count" [.loc "_law_script",.loc "_law_k"])] [],
  .assign (.name "_law_some") (.list [.int 0,.bin .add (.int 1)<|.bin .mod (.loc "_law_more") (.int 4),.bin .add (.int 1)<|.bin .mod (.loc "_law_more") (.int 4),.bin .add (.int 5)<|.bin .mod (.loc "_law_more") (.int 9),.bin .add (.int 5)<|.bin .mod (.loc "_law_more") (.int 9),.bin .add (.int 5)<|.bin .mod (.loc "_law_more") (.int 16),.bin .add (.int 4)<|.bin .mod (.loc "_law_more") (.int 9),.bin .mod (.loc "_law_more") (.int 40)]),
  .ret (.sub (.loc "_law_some") (.bin .mod (.loc "_law_number") (.int 8)))]⟩
noncomputable def fm:Fn:=⟨"_law_drawn",["_law_script"],["_law_high","_law_wide","_law_table","_law_row","_law_number"],
 [.assign (.tup ["_law_high","_law_wide"]) (.call "_law_sides" [.loc "_law_script"]),
  .assign (.name "_law_table") (.list []),
  .for_ (.name "_law_row") .range [.loc "_law_high"] [.expr (.meth (.loc "_law_table") .append [.comp (.call "_law_hide_count" [.loc "_law_script",.bin .add (.bin .add (.int 8)<|.bin .mul (.loc "_law_wide") (.loc "_law_row")) (.loc "_law_column")]) (.name "_law_column") .range [.loc "_law_wide"]])],
  .assign (.name "_law_number") (.call "_law_mix" [.loc "_law_script",.int 79]),
  .if_ (.cmp (.gt ()) (.bin .mod (.loc "_law_number")<|.int 4)<|.int 0) [.setIdx (.sub (.loc "_law_table")<|.bin .mod (.call "_law_mix" [.loc "_law_script",.int 77]) (.loc "_law_high")) (.bin .mod (.call "_law_mix" [.loc "_law_script",.int 78])<|.loc "_law_wide") (.bin .add (.int 1)<|.bin .mod (.bin .fdiv (.loc "_law_number")<|.int 4) (.int 2))] [],
  .ret (.loc "_law_table")]⟩
noncomputable def fk:Fn:=⟨"_law_bound",["_law_script"],["_law_number"],
 [.assign (.name "_law_number") (.call "_law_mix" [.loc "_law_script",.int 3]),
  .if_ (.cmp .eq (.bin .mod (.loc "_law_number")<|.int 12)<|.int 0) [.ret (.bin .add (.int 1)<|.bin .mod (.bin .fdiv (.loc "_law_number")<|.int 12) (.bin (.pow ()) (.int 10)<|.int 9))] [],
  .ret (.bin .add (.int 1) (.bin .mod (.bin .fdiv (.loc "_law_number") (.int 12)) (.int 4)))]⟩
noncomputable def fq:Fn:=⟨"_law_width",["_law_script","_law_table"],["_law_number","_law_more"],
 [.assign (.name "_law_number") (.call "_law_mix" [.loc "_law_script",.int 4]),
  .assign (.name "_law_more") (.bin .fdiv (.loc "_law_number")<|.int 8),
  .if_ (.cmp (.gt ()) (.bin .mul (.bi .len [.loc "_law_table"])<|.bi .len [.sub (.loc "_law_table") (.int 0)])<|.int 9) [.ret (.bin .add (.int 1)<|.bin .mod (.loc "_law_more") (.int 3))] [],
  .ret (.bin .add (.int 1) (.sub (.list [.bin .mod (.loc "_law_more") (.int 3),.bin .mod (.loc "_law_more") (.int 3),.bin .mod (.loc "_law_more") (.int 3),.bin .mod (.loc "_law_more") (.int 2),.bin .mod (.loc "_law_more") (.int 5),.bin .mod (.loc "_law_more") (.int 8),.bin .mod (.loc "_law_more") (.int 60),.bin .mod (.loc "_law_more") (.bin (.pow ()) (.int 10) (.int 9))]) (.bin .mod (.loc "_law_number") (.int 8))))]⟩
noncomputable def gI:Fn:=⟨"_law_all",["_law_table"],["_law_found","_law_row"],
 [.assign (.name "_law_found") (.list []),
  .for_ (.name "_law_row") .range [.bi .len [.loc "_law_table"]] [.assign (.name "_law_found") (.bin .add (.loc "_law_found")<|.comp (.tup [.loc "_law_row",.loc "_law_column"]) (.name "_law_column") .range [.bi .len [.sub (.loc "_law_table") (.int 0)]])],
  .ret (.loc "_law_found")]⟩
noncomputable def c3:Fn:=⟨"_law_column_sums",["_law_table"],[],
 [.ret (.comp (.bi .sum [.comp (.sub (.loc "_law_row") (.loc "_law_column")) (.name "_law_row") .val [.loc "_law_table"]]) (.name "_law_column") .range [.bi .len [.sub (.loc "_law_table") (.int 0)]])]⟩
noncomputable def fZ:Fn:=⟨"_law_view",["_law_table","_law_places"],["_law_cells","_law_row"],
 [.assign (.name "_law_cells") (.list []),
  .for_ (.name "_law_row") .range [.bi .len [.loc "_law_table"]] [.expr (.meth (.loc "_law_cells") .append [.comp (.sub (.list [.sub (.sub (.loc "_law_table")<|.loc "_law_row") (.loc "_law_at"),.none])<|.bi .int [.cmp .in_ (.tup [.loc "_law_row",.loc "_law_at"]) (.loc "_law_places")]) (.name "_law_at") .range [.bi .len [.sub (.loc "_law_table") (.int 0)]]])],
  .ret (.tup [.loc "_law_cells",.comp (.bi .sum [.loc "_law_row"]) (.name "_law_row") .val [.loc "_law_table"],.call "_law_column_sums" [.loc "_law_table"]])]⟩
noncomputable def i9:Fn:=⟨"_law_small",["_law_table","_law_bound_here"],[],
 [.ret (.compIf (.loc "_law_place") (.name "_law_place") .val [.call "_law_all" [.loc "_law_table"]] (.cmp2 (.int 1) .le (.sub (.sub (.loc "_law_table") (.sub (.loc "_law_place") (.int 0))) (.sub (.loc "_law_place") (.int 1))) .le (.loc "_law_bound_here")))]⟩
noncomputable def fu:Fn:=⟨"_law_rests",["_law_view_here"],["_law_cells","_law_left","_law_shown"],
 [.assign (.name "_law_cells") (.comp (.comp (.sub (.list [.loc "_law_count_here",.int 0]) (.bi .int [.isNone (.loc "_law_count_here")])) (.name "_law_count_here") .val [.loc "_law_row"]) (.name "_law_row") .val [.sub (.loc "_law_view_here") (.int 0)]),
  .assign (.name "_law_left") (.comp (.bin .sub (.sub (.sub (.loc "_law_view_here")<|.int 1)<|.loc "_law_row")<|.bi .sum [.sub (.loc "_law_cells") (.loc "_law_row")]) (.name "_law_row") .range [.bi .len [.loc "_law_cells"]]),
  .assign (.name "_law_shown") (.call "_law_column_sums" [.loc "_law_cells"]),
  .ret (.tup [.loc "_law_left",.comp (.bin .sub (.sub (.sub (.loc "_law_view_here") (.int 2)) (.loc "_law_column")) (.sub (.loc "_law_shown") (.loc "_law_column"))) (.name "_law_column") .range [.bi .len [.loc "_law_shown"]]])]⟩
noncomputable def e8:Fn:=⟨"_law_whole",["_law_thing"],[],
 [.ret (.and_ (.isi (.loc "_law_thing") ["int"]) (.not_ (.isi (.loc "_law_thing") ["bool"])))]⟩
noncomputable def et:Fn:=⟨"_law_numbers",["_law_thing","_law_many"],[],
 [.if_ (.or_ (.not_ (.isi (.loc "_law_thing") ["list"])) (.not_ (.bi .all [.comp (.call "_law_whole" [.loc "_law_one"]) (.name "_law_one") .val [.loc "_law_thing"]]))) [.ret (.bool Jd)] [],
  .ret (.cmp .eq (.loc "_law_thing") (.compIf (.loc "_law_number") (.name "_law_number") .range [.loc "_law_many"] (.cmp .in_ (.loc "_law_number") (.loc "_law_thing"))))]⟩
noncomputable def eL:Fn:=⟨"_law_hidden",["_law_view_here"],[],
 [.ret (.compIf (.loc "_law_place") (.name "_law_place") .val [.call "_law_all" [.sub (.loc "_law_view_here") (.int 0)]] (.isNone (.sub (.sub (.sub (.loc "_law_view_here") (.int 0)) (.sub (.loc "_law_place") (.int 0))) (.sub (.loc "_law_place") (.int 1)))))]⟩
noncomputable def gT:Fn:=⟨"_law_gap",["_law_view_here","_law_rows","_law_columns"],["_law_left","_law_below"],
 [.assign (.tup ["_law_left","_law_below"]) (.call "_law_rests" [.loc "_law_view_here"]),
  .ret (.bin .sub (.bi .sum [.comp (.sub (.loc "_law_left") (.loc "_law_row")) (.name "_law_row") .val [.loc "_law_rows"]]) (.bi .sum [.comp (.sub (.loc "_law_below") (.loc "_law_column")) (.name "_law_column") .val [.loc "_law_columns"]]))]⟩
noncomputable def f__law_fence:Fn:=⟨"_law_fence",["_law_view_here","_law_place","_law_shut","_law_high"],["_law_number","_law_rows","_law_columns","_law_row","_law_column"],
 [.if_ (.or_ (.not_ (.isi (.loc "_law_shut") ["tuple"])) (.or_ (.cmp .ne (.bi .len [.loc "_law_shut"]) (.int 3)) (.not_ (.call "_law_whole" [.sub (.loc "_law_shut") (.int 0)])))) [.ret (.bool Jd)] [],
  .assign (.tup ["_law_number","_law_rows","_law_columns"]) (.loc "_law_shut"),
  .if_ (.or_ (.not_<|.call "_law_numbers" [.loc "_law_rows",.bi .len [.sub (.loc "_law_view_here") (.int 1)]])<|.not_ (.call "_law_numbers" [.loc "_law_columns",.bi .len [.sub (.loc "_law_view_here") (.int 2)]])) [.ret (.bool Jd)] [],
  .if_ (.and_ (.not_<|.loc "_law_high")<|.cmp .eq (.loc "_law_shut") (.tup [.int 0,.list [],.list []])) [.ret (.bool Jc)] [],
  .if_ (.or_ (.cmp .nin (.sub (.loc "_law_place")<|.int 0)<|.loc "_law_rows")<|.cmp .in_ (.sub (.loc "_law_place")<|.int 1) (.loc "_law_columns")) [.ret (.bool Jd)] [],
  .for_ (.tup ["_law_row","_law_column"]) .val [.call "_law_hidden" [.loc "_law_view_here"]] [.if_ (.and_ (.loc "_law_high")<|.and_ (.cmp .in_ (.loc "_law_column")<|.loc "_law_columns") (.cmp .nin (.loc "_law_row")<|.loc "_law_rows")) [.ret (.bool Jd)] [],.if_ (.and_ (.not_<|.loc "_law_high")<|.and_ (.cmp .in_ (.loc "_law_row")<|.loc "_law_rows") (.and_ (.cmp .nin (.loc "_law_column")<|.loc "_law_columns")<|.cmp .ne (.tup [.loc "_law_row",.loc "_law_column"]) (.loc "_law_place"))) [.ret (.bool Jd)] []],
  .ret (.cmp .eq (.loc "_law_number") (.call "_law_gap" [.loc "_law_view_here",.loc "_law_rows",.loc "_law_columns"]))]⟩
noncomputable def f0:Fn:=⟨"_law_step",["_law_table","_law_hidden_here","_law_step_here","_law_width_here"],["_law_view_here"],
 [.if_ (.or_ (.not_ (.isi (.loc "_law_step_here") ["tuple"])) (.or_ (.cmp .ne (.bi .len [.loc "_law_step_here"]) (.int 3)) (.cmp .nin (.sub (.loc "_law_step_here") (.int 0)) (.loc "_law_hidden_here")))) [.ret (.bool Jd)] [],
  .assign (.name "_law_view_here") (.call "_law_view" [.loc "_law_table",.loc "_law_hidden_here"]),
  .if_ (.or_ (.not_<|.call "_law_fence" [.loc "_law_view_here",.sub (.loc "_law_step_here")<|.int 0,.sub (.loc "_law_step_here")<|.int 1,.bool Jd])<|.not_ (.call "_law_fence" [.loc "_law_view_here",.sub (.loc "_law_step_here")<|.int 0,.sub (.loc "_law_step_here")<|.int 2,.bool Jc])) [.ret (.bool Jd)] [],
  .ret (.cmp .lt (.bin .sub (.sub (.sub (.loc "_law_step_here") (.int 2)) (.int 0)) (.sub (.sub (.loc "_law_step_here") (.int 1)) (.int 0))) (.loc "_law_width_here"))]⟩
noncomputable def dM:Fn:=⟨"_law_is_place",["_law_thing"],[],
 [.ret (.and_ (.isi (.loc "_law_thing") ["tuple"]) (.and_ (.cmp .eq (.bi .len [.loc "_law_thing"]) (.int 2)) (.and_ (.call "_law_whole" [.sub (.loc "_law_thing") (.int 0)]) (.call "_law_whole" [.sub (.loc "_law_thing") (.int 1)]))))]⟩
noncomputable def fX:Fn:=⟨"_law_road",["_law_table","_law_places","_law_bound_here","_law_width_here","_law_road_here"],["_law_hidden_here","_law_number","_law_step_here","_law_small_here"],
 [.if_ (.or_ (.not_ (.isi (.loc "_law_road_here") ["list"])) (.cmp .eq (.bi .len [.loc "_law_road_here"]) (.int 0))) [.ret (.bool Jd)] [],
  .assign (.name "_law_hidden_here") (.bi .list [.loc "_law_places"]),
  .for_ (.tup ["_law_number","_law_step_here"]) .enum [.loc "_law_road_here"] [.if_ (.or_ (.not_<|.call "_law_step" [.loc "_law_table",.loc "_law_hidden_here",.loc "_law_step_here",.loc "_law_width_here"])<|.not_ (.call "_law_is_place" [.sub (.loc "_law_step_here") (.int 0)])) [.ret (.bool Jd)] [],.assign (.name "_law_small_here")<|.cmp2 (.int 1) .le (.sub (.sub (.loc "_law_table")<|.sub (.sub (.loc "_law_step_here")<|.int 0) (.int 0))<|.sub (.sub (.loc "_law_step_here")<|.int 0) (.int 1)) .le (.loc "_law_bound_here"),.if_ (.cmp .ne (.loc "_law_small_here")<|.cmp .eq (.loc "_law_number") (.bin .sub (.bi .len [.loc "_law_road_here"])<|.int 1)) [.ret (.bool Jd)] [],.expr (.meth (.loc "_law_hidden_here") .remove [.sub (.loc "_law_step_here") (.int 0)])],
  .ret (.bool Jc)]⟩
noncomputable def f_law:Fn:=⟨"law",["_law_script"],["_law_table","_law_bound_here","_law_width_here","_law_handed","_law_paper","_law_hidden_here","_law_place","_law_road_here"],
 [.assign (.name "_law_table") (.call "_law_drawn" [.loc "_law_script"]),
  .assign (.name "_law_bound_here") (.call "_law_bound" [.loc "_law_script"]),
  .assign (.name "_law_width_here") (.call "_law_width" [.loc "_law_script",.loc "_law_table"]),
  .assign (.name "_law_handed") (.comp (.bi .list [.loc "_law_row"]) (.name "_law_row") .val [.loc "_law_table"]),
  .try1 [.assign (.name "_law_paper") (.call "hide" [.loc "_law_handed",.loc "_law_bound_here",.loc "_law_width_here"])] "NotHidden" [.ret (.cmp .eq (.loc "_law_handed")<|.loc "_law_table")],
  .if_ (.or_ (.not_<|.isi (.loc "_law_paper") ["tuple"])<|.or_ (.cmp .ne (.bi .len [.loc "_law_paper"])<|.int 4) (.or_ (.not_<|.isi (.sub (.loc "_law_paper")<|.int 3) ["list"])<|.cmp .ne (.loc "_law_handed") (.loc "_law_table"))) [.ret (.bool Jd)] [],
  .if_ (.not_<|.bi .all [.comp (.and_ (.isi (.loc "_law_one") ["tuple"])<|.cmp .eq (.bi .len [.loc "_law_one"]) (.int 2)) (.name "_law_one") .val [.sub (.loc "_law_paper") (.int 3)]]) [.ret (.bool Jd)] [],
  .if_ (.cmp .ne (.comp (.sub (.loc "_law_one")<|.int 0) (.name "_law_one") .val [.sub (.loc "_law_paper") (.int 3)])<|.bi .list [.sub (.loc "_law_paper") (.int 1)]) [.ret (.bool Jd)] [],
  .assign (.name "_law_hidden_here") (.compIf (.loc "_law_place") (.name "_law_place") .val [.call "_law_all" [.loc "_law_table"]] (.or_ (.cmp .in_ (.loc "_law_place")<|.sub (.loc "_law_paper") (.int 0))<|.cmp .in_ (.loc "_law_place") (.sub (.loc "_law_paper")<|.int 1))),
  .for_ (.tup ["_law_place","_law_road_here"]) .val [.sub (.loc "_law_paper") (.int 3)] [.if_ (.not_<|.call "_law_road" [.loc "_law_table",.compIf (.loc "_law_one") (.name "_law_one") .val [.loc "_law_hidden_here"] (.cmp .ne (.loc "_law_one")<|.loc "_law_place"),.loc "_law_bound_here",.loc "_law_width_here",.loc "_law_road_here"]) [.ret (.bool Jd)] []],
  .ret (.bool Jc)]⟩
def tab0:List Fn:=[ip,fz,jh,na,fh,eC,iE,fj,gR,fg,eP,iz,fS,gL,gH,gG,iq,f8,gP,mz,fT,fV,eO,f5,m8,nv,f__law_mix,eZ,f__law_sides,dh,fm,fk,fq,gI,c3,fZ,i9,fu,e8,et,eL,gT,f__law_fence,f0,dM,fX,f_law]
def tab:List Fn:=[ip,fz,jh,na,fh,eC,iE,fj,gR,fg,eP,iz,fS,gL,gH,gG,iq,f8,gP,mz,fT,fV,eO,f5,m8,nv,f__law_mix,eZ,f__law_sides,dh,fm,fk,fq,gI,c3,fZ,i9,fu,e8,et,eL,gT,f__law_fence,f0,dM,fX,f_law,df,em,cz,f_Bounds_walls,eM,de,ei,dS,er]
abbrev G1:Gx:=gxE [("MOST",.int 8),("ROW",.str "row"),("COLUMN",.str "column")] tab0 kinds7
theorem most:G1.glob "MOST"=Ja (.int 8):=rfl
theorem gK(h:Q (.str "row") Jb):dglob Q (G1.glob "ROW"):=h
theorem gq(h:Q (.str "column") Jb):dglob Q (G1.glob "COLUMN"):=h
abbrev Env1(C:Cx)(G:Gx)(g m:Jq->Option Jf):Prop:=EnvD tab C G g m
theorem br(i:Nat)(h:tab[i]? =Ja t):t∈tab:=QB h
theorem rg{n:Nat}(h:n<=8): -1000000<(n:Int)/\(n:Int)<=1000000:=⟨KY (by decide)<|QS n,Kq.mpr<|Qn h (by decide)⟩
section
variable{C:Cx}{mg mb:Jq->Option Jf}{n:Nat}{Q:D->Bool->Prop}{X:DX}
noncomputable def cellF(ns:List Int)(k:Int):Int:=if 0<ns.length then(ns[(k.fmod ns.length).toNat]?.getD 0)+k.fdiv ns.length else 0
def mixF(ns:List Int)(k:Int):Int:=
 let m:=((cellF ns k+7919*(k+1))*48271).fmod 2147483647
 (m*m).fmod 2147483629
theorem eU(e:Env1 C G1 mg mb){ns:List Int}(s:ns.length<=63)(h:Q (.int (mixF ns k)) Jc):aR (aO C (n+1)) "_law_mix" [(.scr ns,b),(.int k,G)] Q X:=by
 refine e.fn f__law_mix (br 26 rfl) rfl λl u P PX g=> ?_;dsimp only[f__law_mix];dsimp only[aZ,cb,bv];refine bl ?_;dsimp only[aN,bB,aG,aL,Qa,aM,aB,aA];refine cg ?_
 (dsimp only[aX,bt,aN,bj,bS,j4,aC,aE,bW,aD,aF,Qa,aJ,aB,aA,aK,xG,cB];refine⟨rfl,?_⟩)
 have fin:∀c:Int,c=cellF ns k->dwss G1 l u (f__law_mix.b.drop 2) (Nb "_law_script" b (D.scr ns)<|Nb "_law_k" G (D.int k)<|Nb "_law_cell" Jc (D.int c)<|No "_law_number" Jb<|[]) P PX:=λc Z=>by
  dsimp only[f__law_mix,Yu];refine bl ?_
  (dsimp only[bp,aN,aD,aF,Qa,aJ,aB,aA,aK,bw,dD,lr,cD,bB,aG,aL,aM];refine⟨.inl<|by decide,.inr<|by decide,by decide,?_⟩)
  refine bL ?_;dsimp only[bp,aN,aD,aF,Qa,aA,aB,aK,bw,lr,cD,aG];refine⟨.inl ?_,by decide,?_⟩
  ·have:=eX (a:=(c+7919*(k+1))*48271) (b:=2147483647) (by decide);exact Nat.lt_trans (Int.natAbs_lt_natAbs_of_nonneg_of_lt this.1 this.2)<|by decide
  ·rw[Z];exact g.qr h
 refine cM (λi=> ?_) λi=> ?_
 ·refine bl ?_;have M:=eX (a:=k) (b:=ns.length) i
  (dsimp only[bp,bj,bS,aC,aE,bW,aD,aF,Qa,aJ,aB,aA,aK,xG,cB,bw,eK,aP,cD,gY];refine⟨rfl,?_⟩)
  refine⟨by exact Int.ne_of_gt i,?_⟩;refine aY (wM M.1 M.2) ?_
  (dsimp only[bw,dD,bB,aG,aL,Qa,aM,aB,aA];refine⟨rfl,?_⟩)
  refine⟨by exact Int.ne_of_gt i,by exact zb1 s rfl,fin _ ?_⟩;rw[cellF,Ua (by exact Kf.mp i)]
 ·exact fin 0<|by rw[cellF,Y9 (by exact λq=>i<|Kf.mpr q)]
theorem yN(ns:List Int)(k:Int):0<=mixF ns k/\mixF ns k<2147483629:=eX<|by decide
def lF(ns:List Int)(k:Int):Int:=
 let m:=mixF ns k
 let r:=m.fdiv 8
 if m.fmod 8=0 then 0 else [r.fmod 3,r.fmod 5,r.fmod 12,[0,1,2,40][(r.fmod 4).toNat]?.getD 0,r.fmod 1000,r*10^11+r.fmod 7][((mixF ns 2).fmod 6).toNat]?.getD 0
theorem td(e:Env1 C G1 mg mb){ns:List Int}(s:ns.length<=63)(h:Q (.int (lF ns k)) Jc):aR (aO C (n+2)) "_law_count" [(.scr ns,b),(.int k,G)] Q X:=by
 refine e.fn eZ (br 27 rfl) rfl λM u P PX g=> ?_;dsimp only[eZ];dsimp only[aZ,cb,bv];refine bl ?_
 (dsimp only[aQ,flags,aC,aH,aW,aE,aI,aT,aD,aF,Qa,aJ,aB,aA,aK,bw,aG,bu,gY,bC];refine⟨rfl,?_⟩)
 refine g.hc<|eU e s ?_;dsimp only[aA,bw,bB,aG,aL,Qa,aM,aB];refine bl ?_
 (dsimp only[bp,aN,aD,aF,Qa,aJ,aB,aA,aK,bw,eK,bB,aG,aL,aM];refine⟨by decide,by decide,?_⟩)
 refine cg ?_
 (dsimp only[aX,bt,c4,deq,aN,bp,aD,aF,Qa,aJ,aB,aA,aK,bw,cD,bY];refine⟨by decide,⟨rfl,rfl⟩,?_⟩)
 rw[lF] at h;generalize mixF ns k=m at h ⊢;refine cM (λi=> ?_) λi=> ?_
 ·refine bL ?_;dsimp only[aN,aG];rw[Ua i] at h;exact g.qr h
 ·refine bl ?_
  (dsimp only[bH,fsts,dnew,aC,aH,aU,aW,aE,aI,aV,aT,bp,aN,aD,aF,Qa,aJ,aB,aA,aK,bw,cD,pA,lr,dD,bu,aP];refine⟨by decide,by decide,by decide,by decide,by decide,?_⟩)
  have q:=eX (a:=m.fdiv 8) (b:=4) (by decide);refine aY (show dsub (.list [.int 0,.int 1,.int 2,.int 40]) (.int<|(m.fdiv 8).fmod 4)=_ from gv (l:=[0,1,2,40]) q.1 q.2) ?_
  (dsimp only[bw,bu,bB,aG,aL,Qa,aM,aA,aB];refine⟨by decide,by decide,by decide,by decide,.inr<|by decide,by decide,by decide,?_⟩)
  refine bL ?_
  (dsimp only[aP,bp,aN,aQ,flags,aC,aH,aW,aE,aI,aT,aG,bu,aD,aF,Qa,aB,aA,aK,gY,bC,bo];refine⟨rfl,?_⟩)
  refine g.hc<|eU e s ?_
  (dsimp only[cD];refine⟨by decide,?_⟩)
  have Z:=eX (a:=mixF ns 2) (b:=6) (by decide);rw[show∀a b c d e f:Int,dsub (.list [.int a,.int b,.int c,.int d,.int e,.int f]) (.int<|(mixF ns 2).fmod 6)=_ from λa b c d e f=>gv (l:=[a,b,c,d,e,f]) Z.1 Z.2];dsimp only[cG,bw,aG];rw[Y9 i] at h;exact g.qr h
theorem uo(ns:List Int)(k:Int):0<=lF ns k:=by
 unfold lF;have U:=(yN ns k).1;generalize mixF ns k=m at U ⊢;dsimp only
 split
 ·exact QX 0
 ·have y:0<=m.fdiv 8:=Int.fdiv_nonneg U (by decide);generalize m.fdiv 8=r at y ⊢;generalize ((mixF ns 2).fmod 6).toNat=j;have h:∀b:Int,0<b->0<=r.fmod b:=λb R=>(eX R).1;have w:0<=([0,1,2,40][(r.fmod 4).toNat]?.getD 0:Int):=by
   generalize (r.fmod 4).toNat=i
   match i with
   |0|1|2|3=>decide
   |_+4=>exact QX 0
  match j with
  |0=>exact h 3<|by decide
  |1=>exact h 5<|by decide
  |2=>exact h 12<|by decide
  |3=>exact w
  |4=>exact h 1000<|by decide
  |5=>exact YD (Int.mul_nonneg y<|by decide)<|h 7 (by decide)
  |_+6=>exact QX 0
end
section
variable{C:Cx}{mg mb:Jq->Option Jf}{n:Nat}{Q:D->Bool->Prop}{X:DX}
theorem sm{L:Type}{t:List (List L)}(R:Rect t h w)(g:L->D):dsub (.list (t.map λr=> .list (r.map g))) (.int 0)=Ja (.list ((rowAt t 0).map g)):=iW (j:=0) (by rw[Qs,(R.at_ R.h1).1];rfl)
theorem xF(e:Env1 C G1 mg mb){q:Type}{t:List (List q)}(R:Rect t h w)(g:q->D)(k:Q (.list ((allF h w).map dP)) Jc):aR (aO C (n+1)) "_law_all" [(.list (t.map λr=> .list (r.map g)),b)] Q X:=by
 refine e.fn gI (br 33 rfl) rfl λl u P PX F=> ?_;dsimp only[gI];dsimp only[aZ,cb,bv];have U:=R.h8;have d:=R.w8;have s:h*w<=8*8:=Yc U d;refine bl ?_
 (dsimp only[bH,fsts,dnew,aE,aI,aV,aT,bB,aG,aL,Qa,aM,aB,aA];refine⟨by decide,?_⟩)
 refine dz rfl ?_
 (dsimp only[fsts,aC,aH,aW,aE,aI,aT,bj,bS,bu,bB,g7,g8,bW,aD,aF,Qa,aJ,aB,aA,aK,cE,cB];refine⟨rfl,?_⟩)
 rw[Qd,R.len];refine⟨⟨by exact zim _,by exact zip' U⟩,?_⟩;refine eB (λi L=>∃v c,L=(Nb "_law_table" c (.list<|t.map λr=> .list (r.map g))<|Nb "_law_found" Jc (.list<|(allF i w).map dP)<|No "_law_row" v<|[])) ⟨_,_,rfl⟩ ?_ ?_
 ·rintro j L H ⟨v,c,rfl⟩ K m;dsimp only[b8,aL,Qa,aM,aA,aB,bJ];refine bl ?_;dsimp only[bp,aD,aF,Qa,aB,aA,aK,bo];refine b6 rfl ?_
  (dsimp only[fsts,jc,tgl,dnew,aC,aH,aW,aE,aI,aT,bj,bS,bu,g7,g8,bW,aP,aN,aD,aF,Qa,aB,aA,aK];refine⟨rfl,?_⟩)
  refine aY (sm R g) ?_;dsimp only[cE,cB];rw[Qd,(R.at_ R.h1).2];refine⟨⟨by exact zim _,by exact zip' d⟩,cS (λ(c:Nat)=> .tup [.int j,.int c]) (λc Z K k=> ?_) ?_⟩
  ·dsimp only[bq,cF,b8,aM,Qa,aL,aB,aA,bJ];dsimp only[elD]
   (dsimp only[bK,fsts,dtup,aC,aH,aU,aW,aE,aI,aV,aT,aD,aJ,Qa,aF,aB,aA,aK,bw,bu];refine⟨by decide,?_⟩)
   exact k
  ·dsimp only[bC];rw[tO,cP _ dg];dsimp only[aA,bB,aG,aL,Qa,aB];refine⟨?_,?_⟩
   ·rw[Qd,jt];refine dB<|Qn (Yc (show j+1<=8 by exact zle H U) d) (by decide)
   ·exact m _ ⟨_,_,rfl⟩
 ·rintro L ⟨v,c,rfl⟩;refine cZ ?_
  (dsimp only[cf,aL,Qa,aM,aB,aA,aF,aJ,aK,bI];refine⟨rfl,?_⟩)
  exact F.qr k
end
section
variable{C:Cx}{mg mb:Jq->Option Jf}{n:Nat}{Q:D->Bool->Prop}{X:DX}
theorem AA(e:Env1 C G1 mg mb)(R:Rect t h w)(k:Q (dI (csF t w)) Jc):aR (aO C (n+1)) "_law_column_sums" [(dT t,b)] Q X:=by
 refine e.fn c3 (br 34 rfl) rfl λl u P PX g=> ?_;dsimp only[c3];dsimp only[aZ,cb,bv];have d:=R.w8;refine bL ?_;refine b6 rfl ?_
 (dsimp only[fsts,aC,aH,aW,aE,aI,aT,bj,bS,bu,g7,g8,bW,aP,aN,aD,aF,Qa,aA,aK];refine⟨rfl,?_⟩)
 refine aY (hZ R) ?_;dsimp only[cE,cB];rw[R.len0];refine⟨⟨by exact zim _,by exact zip' d⟩,cS (λ(c:Nat)=> .int ((t.map λr=>r[c]?.getD 0).sum)) (λc Z K k=> ?_) ?_⟩
 ·dsimp only[bq,cF,b8,aM,Qa,aL,aB,aA,bJ];dsimp only[elD]
  (dsimp only[bj,gm,aC,aE,bW];refine⟨rfl,?_⟩)
  refine b6 rfl ?_;dsimp only[fsts,dp,aC,aH,aW,aE,aI,aT,ct,aD,aJ,Qa,aF,aA,aB,aK,bo,bC,cw];refine bG dI (λr=> .int (r[c]?.getD 0)) (λr T K k=> ?_) ?_
  ·dsimp only[bq,cF,b8,aM,Qa,aL,aB,aA,bJ];dsimp only[elD];dsimp only[aP,aD,aJ,Qa,aF,aB,aA,aK,bo];refine aY (gp<|by rw[R.row r T];exact Z) ?_;exact k
  ·refine gx (d3 _ _) ?_;exact k
 ·dsimp only[aG];rw[csF,dI,QE] at k;exact g.qr k
theorem y7(e:Env1 C G1 mg mb)(R:Rect t h w){ps:List (Nat×Nat)}(k:Q (viewF t (hidF ps) h w) Jc):aR (aO C (n+2)) "_law_view" [(dT t,b),(.list (ps.map dP),G)] Q X:=by
 refine e.fn fZ (br 35 rfl) rfl λl u P PX g=> ?_;dsimp only[fZ];dsimp only[aZ,cb,bv];have U:=R.h8;have d:=R.w8;refine bl ?_
 (dsimp only[bH,fsts,dnew,aE,aI,aV,aT,bB,aG,aL,Qa,aM,aB,aA];refine⟨by decide,?_⟩)
 refine dz rfl ?_
 (dsimp only[fsts,aC,aH,aW,aE,aI,aT,bj,bS,bu,bB,g7,g8,bW,aD,aF,Qa,aJ,aB,aA,aK,cE,cB];refine⟨rfl,?_⟩)
 rw[R.lenD];refine⟨⟨by exact zim _,by exact zip' U⟩,?_⟩;refine eB (λi L=>∃v,L=(Nb "_law_table" b (dT t)<|Nb "_law_places" G (.list<|ps.map dP)<|Nb "_law_cells" Jc (dC<|cellsF t (hidF ps) i w)<|No "_law_row" v<|[])) ⟨_,rfl⟩ ?_ ?_
 ·rintro j L H ⟨v,rfl⟩ K m;dsimp only[b8,aL,Qa,aM,aA,aB,bJ];refine iH ?_
  (dsimp only[aF,Qa,aB,aA,aK,dp,lG,aL];refine⟨trivial,?_⟩)
  refine b6 rfl ?_
  (dsimp only[fsts,aC,aH,aW,aE,aI,aT,bj,bS,bu,g7,g8,bW,aP,aN,aD,aF,Qa,aB,aA,aK];refine⟨rfl,?_⟩)
  refine aY (hZ R) ?_;dsimp only[cE,cB];rw[R.len0];refine⟨⟨by exact zim _,by exact zip' d⟩,cS (λ(c:Nat)=>dO<|cellO t (hidF ps) j c) (λc Z K k=> ?_) ?_⟩
  ·dsimp only[bq,cF,b8,aM,Qa,aL,aB,aA,bJ];dsimp only[elD];dsimp only[aP,bj,vf,aC,aE,bW,aX,bt,i6,aD,aJ,Qa,aF,aB,aA,aK,bK,fsts,dtup,aH,aU,aI,aV,bH,dnew,aW,aT,eT,bu,bo];refine aY (iw R H) ?_;dsimp only[bo];refine aY (jf R H Z) ?_
   (dsimp only[bw,bu];refine⟨by decide,rfl,by decide,?_⟩)
   rw[jo];refine⟨⟨rfl,cj dP (λp=>rfl) ps⟩,?_⟩;change K (dO<|cond (hidF ps j c) Jb (Ja<|cell t j c)) Jb at k;change dOD _ (dsub (.list [.int (cell t j c),.none])<|.int (if hidF ps j c=Jc then 1 else 0))
   revert k
   cases hidF ps j c with
   |true=>exact λk=>k
   |false=>exact λk=>k
  ·refine⟨rfl,rfl,?_,m _ ⟨Ja (.int j,Jc),?_⟩⟩
   ·rw[Qd,cellsF,Qd,QA];exact c6<|by exact zll H<|zb2 U rfl
   ·rw[pW];rfl
 ·rintro L ⟨v,rfl⟩;refine cZ ?_
  (dsimp only[dU,cX,aU,dX,aV,lG,cf,aL,Qa,aM,aB,aA,aF,aJ,aK,bI];refine⟨rfl,?_⟩)
  refine b6 rfl ?_;dsimp only[fsts,aC,aH,aW,aE,aI,aT,ct,aD,aF,Qa,aJ,aB,aA,aK,bo,bC,cw];refine bG dI (λr=> .int r.sum) (λr T K k=> ?_) ?_
  ·dsimp only[bq,cF,b8,aM,Qa,aL,aA,aB,bJ];dsimp only[elD]
   (dsimp only[bj,gm,aC,aE,bW,aD,aJ,Qa,aF,aA,aB,aK,dp];refine⟨rfl,?_⟩)
   refine gx (fH _) ?_;exact k
  ·refine⟨rfl,?_⟩;refine ue ?_
   (dsimp only[aQ,flags,aC,aH,aW,aE,aI,aT,aD,aF,Qa,aJ,aB,aA,aK,bo,aS,bC,ch,bO];refine⟨rfl,?_⟩)
   refine g.hc<|AA e R ?_
   (dsimp only[aA,bo];refine⟨rfl,by decide,?_⟩)
   rw[viewF,rsF,dI,QE] at k;exact g.qr k
end
section
variable{C:Cx}{mg mb:Jq->Option Jf}{n:Nat}{Q:D->Bool->Prop}{X:DX}
theorem ir(e:Env1 C G1 mg mb)(k:Q (.bool (decide (i>=0))) Jc):aR (aO C (n+1)) "is_count" [(.int i,b)] Q X:=by
 refine e.fn eC (br 5 rfl) rfl λl c P PX g=> ?_;dsimp only[eC];dsimp only[aZ,cb,bv];refine bL ?_
 (dsimp only[cq,aX,aG,aN,aD,aF,Qa,aA,aK,qj,bN,bt,cN,xI,gW,j5,xD];refine⟨rfl,rfl,?_⟩)
 exact g.qr k
theorem ya(e:Env1 C G1 mg mb)(k:Q (.bool (gridF l)) Jc):aR (aO C (n+1)) "is_grid" [(dL l,b)] Q X:=by
 refine e.fn iE (br 6 rfl) rfl λM c P PX g=> ?_;dsimp only[iE];dsimp only[aZ,cb,bv];unfold gridF at k;refine cg ?_
 (dsimp only[cA,bt,aA,bN,jl,b9,j5,bj,bS,aC,aE,bW,aD,aF,Qa,aK,cE,cB,aN,lb,cN,l4,gW,cm,aB];refine⟨rfl,rfl,?_⟩)
 dsimp only[most];dsimp only[AX,lb];rw[Qd];have no:¬ (1<=l.length/\l.length<=8)->Q (.bool Jd) Jc:=λh=>by rw[Y7 h] at k;exact k
 refine cM (λN=> ?_) λN=> ?_
 ·refine kr (λp=> ?_) λp=> ?_
  ·have T:1<=l.length/\l.length<=8:=by exact⟨Kq.mp N,Kq.mp p⟩
   rw[Y6 T,Ym] at k;clear no;have W:l[0]? =Ja (rowAt l 0):=by rw[rowAt,Qi (by exact Kq.mp N)];rfl
   have s:dsub (dL l) (.int 0)=Ja (.list<|rowAt l 0):=iW (j:=0) (by rw[Qs,W];rfl);refine cg ?_
   (dsimp only[cA,bt,aA,bN,jl,b9,j5,bj,bS,aC,aE,bW,aP,aN,aD,aF,Qa,aK,lb,hV];refine⟨rfl,?_⟩)
   refine b6 rfl ?_;dsimp only[fsts,dp,aC,aH,aW,aE,aI,aT,ct,aD,aF,Qa,aA,aK,bo,bC,cw];refine bG D.list (λo0=> .bool Jc) (λr f K k=> ?_) ?_
   ·dsimp only[bq,cF,b8,aM,Qa,aL,aB,aA,bJ];dsimp only[elD]
    (dsimp only[cN,aD,aJ,Qa,aF,aB,aA,aK,l4,gW];refine⟨rfl,?_⟩)
    exact k
   ·refine jW (dj _ _) ?_;rw[show(Ky (λo0=>Jc) l).all id=Jc from by rw[hY];exact Qv.mpr λo0 o0=>rfl]
    (dsimp only[cm,aB];refine⟨rfl,?_⟩)
    refine aY s ?_;dsimp only[cE,cB];dsimp only[most];dsimp only[AX,lb];have no:¬ (1<=(rowAt l 0).length/\(rowAt l 0).length<=8)->Q (.bool Jd) Jc:=λh=>by rw[Y7 h] at k;exact k
    refine cM (λN=> ?_) λN=> ?_
    ·refine kr (λp=> ?_) λp=> ?_
     ·rw[Y6 (by exact⟨Kq.mp N,Kq.mp p⟩),Ym] at k;refine bL ?_
      (dsimp only[bj,hV,aG,aC,aE,bW];refine⟨rfl,?_⟩)
      refine b6 rfl ?_;dsimp only[fsts,dp,aC,aH,aW,aE,aI,aT,ct,aD,aF,Qa,aA,aK,bo,bC,cw];refine bG D.list (λr=> .bool (decide<|r.length=(rowAt l 0).length)) (λr f K k=> ?_) ?_
      ·dsimp only[bq,cF,b8,aM,Qa,aL,aB,aA,bJ];dsimp only[elD]
       (dsimp only[aX,c4,deq,bj,bS,aC,aE,bW,aP,aN,aD,aJ,Qa,aF,aA,aB,aK,bY,cE,cB];refine⟨rfl,rfl,?_⟩)
       refine aY s ?_
       (dsimp only[cE,cB];refine⟨⟨rfl,rfl⟩,?_⟩)
       rw[show decide ((r.length:Int)=((rowAt l 0).length:Int))=decide (r.length=(rowAt l 0).length) from decide_eq_decide.mpr (by exact KP)];exact k
      ·refine jW (dj _ _) ?_;rw[hY];exact g.qr k
     ·refine bL ?_;dsimp only[ce,aG];exact g.qr<|no (by exact λq=>p<|Kq.mpr q.2)
    ·refine bL ?_;dsimp only[ce,aG];exact g.qr<|no (by exact λq=>N<|Kq.mpr q.1)
  ·refine bL ?_;dsimp only[ce,aG];exact g.qr<|no (by exact λq=>p<|Kq.mpr q.2)
 ·refine bL ?_;dsimp only[ce,aG];exact g.qr<|no (by exact λq=>N<|Kq.mpr q.1)
theorem qp(e:Env1 C G1 mg mb)(R:Rect t h w)(k:Q (.bool Jc) Jc):aR (aO C (n+1)) "is_grid" [(dC t,b)] Q X:=by
 rw[AH];exact ya e<|by rw[R.grid];exact k
def NN(t:List (List Int)):Prop:=∀r∈t,∀i∈r,0<=i
end
section
variable{C:Cx}{mg mb:Jq->Option Jf}{n:Nat}{Q:D->Bool->Prop}{X:DX}
theorem kP(e:Env1 C G1 mg mb)(R:Rect t h w)(k:Q (.list ((allF h w).map dP)) Jc):aR (aO C (n+1)) "places_of" [(dC t,b)] Q X:=by
 refine e.fn fS (br 12 rfl) rfl λl f P PX g=> ?_;dsimp only[fS];dsimp only[aZ,cb,bv];have U:=R.h8;have d:=R.w8;refine bl ?_
 (dsimp only[bH,fsts,dnew,aE,aI,aV,aT,bB,aG,aL,Qa,aM,aB,aA];refine⟨by decide,?_⟩)
 refine dz rfl ?_
 (dsimp only[fsts,aC,aH,aW,aE,aI,aT,bj,bS,bu,bB,g7,g8,bW,aD,aF,Qa,aJ,aB,aA,aK,cE,cB];refine⟨rfl,?_⟩)
 rw[Qd,R.len];refine⟨⟨by exact zim _,by exact zip' U⟩,?_⟩;refine eB (λi L=>∃u v,L=(Nb "grid" b (dC t)<|Nb "found" Jc (.list<|(allF i w).map dP)<|No "row" u<|No "column" v<|[])) ⟨_,_,rfl⟩ ?_ ?_
 ·rintro j L H ⟨u,v,rfl⟩ K m;dsimp only[b8,aL,Qa,aM,aB,aA,bJ];refine dz rfl ?_
  (dsimp only[fsts,aC,aH,aW,aE,aI,aT,bj,bS,bu,bB,g7,g8,bW,aP,aN,aD,aF,Qa,aJ,aB,aA,aK];refine⟨rfl,?_⟩)
  refine aY (lQ R) ?_;dsimp only[cE,cB];rw[Qd,(R.at_ R.h1).2];refine⟨⟨by exact zim _,by exact zip' d⟩,?_⟩;refine eB (λi L=>∃v,L=(Nb "grid" b (dC t)<|Nb "found" Jc (.list<|(allF j w++(Qc i).map λc=>(j,c)).map dP)<|Nb "row" Jc (.int j)<|No "column" v<|[])) ⟨v,by rw[List.range_zero,WG,QH]⟩ ?_ ?_
  ·rintro i L V ⟨v,rfl⟩ K m;dsimp only[b8,aL,Qa,aM,aA,aB,bJ];refine iH ?_
   (dsimp only[aF,Qa,aB,aA,aK,dp,dU,cX,aU,dX,aV,cf,aL,cy];refine⟨trivial,by decide,rfl,?_⟩)
   refine⟨?_,m _ ⟨Ja (.int i,Jc),?_⟩⟩
   ·rw[Qd,QG,jt,Qd,QA];have:=Yc (show j<=8 by exact Kv<|zll H U) d;exact c6<|by exact zb1 (Ki this<|Kv (zll V d)) rfl
   ·rw[<-gN,<-Kr,QD (l₂:=[(j,i)])];rfl
  ·rintro L ⟨v,rfl⟩;exact m _ ⟨_,_,rfl⟩
 ·rintro L ⟨u,v,rfl⟩;refine cZ ?_
  (dsimp only[cf,aL,Qa,aM,aB,aA,aF,aJ,aK,bI];refine⟨rfl,?_⟩)
  exact g.qr k
theorem qw(e:Env1 C G1 mg mb)(R:Rect c h w){r s:List Int}(z:r.length=h)(E:s.length=w)(k:Q (.tup [dI ((Qc h).map (r1F c r)),dI ((Qc w).map (r2F c s))]) Jc):
  aR (aO C<|n+1) "rests_of" [(.tup [dC c,dI r,dI s],b)] Q X:=by
 refine e.fn gH (br 14 rfl) rfl λl u P PX g=> ?_;dsimp only[gH];dsimp only[aZ,cb,bv];have U:=R.h8;have d:=R.w8;refine c7 rfl ?_;dsimp only[aD,aF,Qa,aJ,aB,aA,aK,bR,tgl,bz,bI,bA,bE,aS,fR,fQ,fO,fP,gE,gn,fK,cJ,fN,fM,rM,aL,aM,bJ];refine bl ?_;refine b6 rfl ?_
 (dsimp only[fsts,aC,aH,aW,aE,aI,aT,bj,bS,bu,g7,g8,bW,aD,aF,Qa,aJ,aB,aA,aK,cE,cB];refine⟨rfl,?_⟩)
 rw[Qd,z];refine⟨⟨by exact zim _,by exact zip' U⟩,cS (λk=> .int (r1F c r k)) (λi V K k=> ?_) ?_⟩
 ·dsimp only[bq,cF,b8,aM,Qa,aL,aA,aB,bJ];dsimp only[elD];dsimp only[bp,bj,gm,aC,aE,bW,aP,aD,aJ,Qa,aF,aA,aB,aK,bo];refine aY (gp<|by exact zq V z.symm) ?_
  (dsimp only[bw,eH];refine⟨rfl,?_⟩)
  refine cx rfl ?_;dsimp only[fsts,dp,aC,aH,aW,aE,aI,aT,ct,aP,aD,aJ,Qa,aF,aA,aB,aK,bo];refine aY (gD R V) ?_;dsimp only[cw,bo,bC];refine ca dO dO (λo=>o.isSome) (λo a=> ?_) ?_
  ·dsimp only[bq,cF,b8,aM,Qa,aL,aB,aA,bJ];refine⟨λT Y=> ?_,λo0 K k=> ?_⟩
   ·dsimp only[tstD];dsimp only[dq,bt,aD,aJ,Qa,aF,aB,aA,aK];refine⟨(eV o).1,?_⟩;rw[(eV o).2,Bool.not_not];exact Y
   ·dsimp only[elD];dsimp only[aD,aJ,Qa,aF,aB,aA,aK];rw[show tg0 (dO o) (Ja ["count"])=Jb from by rcases o with⟨⟩<;>rfl];exact k
  ·rw[show((rowAt c i).filter λo=>o.isSome).map dO=((rowAt c i).filter λo=>(id o).isSome).map (λo=>dO<|id o) from rfl,lX];exact k
 ·dsimp only[bB,aG,aL,Qa,aM,aB,aA];refine bl ?_
  (dsimp only[bH,fsts,dnew,aE,aI,aV,aT,bB,aG,aL,Qa,aM,aB,aA];refine⟨by decide,?_⟩)
  refine dz rfl ?_
  (dsimp only[fsts,aC,aH,aW,aE,aI,aT,bj,bS,bu,bB,g7,g8,bW,aD,aF,Qa,aJ,aB,aA,aK,cE,cB];refine⟨rfl,?_⟩)
  rw[Qd,E];refine⟨⟨by exact zim _,by exact zip' d⟩,?_⟩;refine eB (λi L=>∃v,L=(Nb "view" Jd (.tup [dC c,dI r,dI s])<|Nb "cells" Jd (dC c)<|Nb "rows" Jd (dI r)<|Nb "columns" Jd (dI s)<|Nb "found" Jc (.list<|(Qc h).map λk=> .int (r1F c r k))<|Nb "others" Jc (dI<|(Qc i).map (r2F c s))<|No "k" v<|[])) ⟨_,rfl⟩ ?_ ?_
  ·rintro j L H ⟨v,rfl⟩ K m;dsimp only[b8,aL,Qa,aM,aA,aB,bJ];refine iH ?_
   (dsimp only[aF,Qa,aB,aA,aK,dp,oh,aL,bp,bj,gm,aC,aE,bW,aP,aD,bo];refine⟨trivial,?_⟩)
   refine aY (gp<|by exact zq H E.symm) ?_
   (dsimp only[bw,eH];refine⟨rfl,?_⟩)
   refine cx rfl ?_;dsimp only[fsts,dp,aC,aH,aW,aE,aI,aT,ct,aD,aF,Qa,aB,aA,aK,bo,bC,cw];refine ca dR (λZ=>dO<|Z[j]?.getD Jb) (λZ=>(Z[j]?.getD Jb).isSome) (λZ f=> ?_) ?_
   ·dsimp only[bq,cF,b8,aM,Qa,aL,aB,aA,bJ];refine⟨λT Y=> ?_,λo0 K k=> ?_⟩
    ·dsimp only[tstD];dsimp only[dq,bt,aP,aD,aJ,Qa,aF,aA,aB,aK];refine aY (nE<|by rw[R.row Z f];exact H) ?_;refine⟨(eV _).1,?_⟩;rw[(eV _).2,Bool.not_not];exact Y
    ·dsimp only[elD];dsimp only[aP,aD,aJ,Qa,aF,aA,aB,aK,bo];refine aY (nE<|by rw[R.row Z f];exact H) ?_;rw[show∀o t,tg0 (dO o) t=Jb from λo t=>by rcases o with⟨⟩<;>rfl];exact k
   ·refine gx (lX _ _) ?_;refine⟨rfl,rfl,?_⟩;refine⟨?_,m _ ⟨Ja (.int j,Jc),?_⟩⟩
    ·rw[Qd,Qd,QA];exact c6<|by exact zll H<|zb2 d rfl
    ·rw[<-gN,vp];rfl
  ·rintro L ⟨v,rfl⟩;refine cZ ?_
   (dsimp only[dU,cX,aU,dX,aV,cf,aL,Qa,aM,aB,aA,aF,aJ,aK,bI];refine⟨rfl,rfl,by decide,?_⟩)
   rw[dI,QE] at k;exact g.qr k
end
structure VOK(c:List (List (Option Int)))(r s:List Int)(h w:Nat):Prop where
 R:Rect c h w
 hr:r.length=h
 hs:s.length=w
 nc:∀row∈c,∀i,Ja i∈row->0<=i
 nr:∀i∈r,0<=i
 ns:∀i∈s,0<=i
 n1:∀k,k<h->0<=r1F c r k
 n2:∀k,k<w->0<=r2F c s k
 eq:((Qc h).map (r1F c r)).sum=((Qc w).map (r2F c s)).sum
theorem rn{f:Nat->Int}(N:1<=n)(h:∀k,k<n->0<=f k):(Qc n).map f≠ []/\0<=lmin ((Qc n).map f):=by
 have U:(Qc n).map f≠ []:=by
  intro q;have:=Ud YF q;rw[Qd,QA,Wv] at this;exact WH N this
 refine⟨U,?_⟩;obtain⟨a,T,e⟩:=Ql.mp (ij U).1;rw[<-e];exact h a<|Qf.mp T
section
variable{C:Cx}{mg mb:Jq->Option Jf}{n:Nat}{Q:D->Bool->Prop}{X:DX}
theorem lN(e:Env1 C G1 mg mb){l:List Int}(T:l.length=m)(o:∀i∈l,0<=i)(k:Q (.bool Jc) Jc):aR (aO C (n+2)) "are_sums" [(dI l,b),(.int m,c)] Q X:=by
 refine e.fn gG (br 15 rfl) rfl λM u P PX g=> ?_;dsimp only[gG];dsimp only[aZ,cb,bv];refine bL ?_
 (dsimp only[cq,bj,hV,aG,aC,aE,bW,aX,bt,c4,deq,aD,aF,Qa,aA,aB,aK,bS,bY,cE,cB,cN,l4,gW];refine⟨rfl,rfl,⟨rfl,rfl⟩,?_⟩)
 rw[Qd,T,Y6 rfl]
 (dsimp only[aA];refine⟨rfl,?_⟩)
 refine b6 rfl ?_;dsimp only[fsts,dp,aC,aH,aW,aE,aI,aT,ct,aD,aF,Qa,aB,aA,aK,bo,bC,cw];refine bG D.int (λi=> .bool (decide<|i>=0)) (λi h K k=> ?_) ?_
 ·dsimp only[bq,cF,b8,aM,Qa,aL,aB,aA,bJ];dsimp only[elD]
  (dsimp only[aQ,flags,aC,aH,aW,aE,aI,aT,aD,aJ,Qa,aF,aB,aA,aK,bw,aG,bu,bC];refine⟨rfl,?_⟩)
  exact g.hc<|ir e k
 ·refine jW (dj _ _) ?_;rw[hY,Qv.mpr λi h=>Y6 (o i h)];exact g.qr k
theorem u9(e:Env1 C G1 mg mb)(V:VOK c r s h w)(k:Q (.bool Jc) Jc):aR (aO C (n+3)) "is_view" [(.tup [dC c,dI r,dI s],b)] Q X:=by
 refine e.fn iq (br 16 rfl) rfl λl u P PX g=> ?_;dsimp only[iq];dsimp only[aZ,cb,bv];refine cg ?_
 (dsimp only[cA,bt,aA,bN,aQ,flags,aC,aH,aE,aI,aP,aN,aD,aF,Qa,aJ,aB,aK,bR,tgl,bz,bI,bA,bE,dY,cG,bo,aS,aX,fD,deq,bj,bS,bY,bW,iJ,aU,aV,cB,cN,iM,gW,cm];refine⟨rfl,rfl,⟨rfl,rfl⟩,?_⟩)
 refine kr (λo0=> ?_) λh=>absurd rfl h;refine⟨rfl,?_⟩;refine g.hc<|qp e V.R ?_;dsimp only[bt,cm,aB];refine dz rfl ?_;dsimp only[fsts,aC,aH,aW,aE,aI,aT,ct,aP,aN,aD,aF,Qa,aJ,aB,aA,aK,bR,tgl,bz,bI,bA,bE,dY,cG,bo,bC,fR,fQ,fO,fP,gE,gn,fK,cJ,fN,fM,cw];refine cK dR (λo0 L=>∃v,L=(Nb "thing" Jd (.tup [dC c,dI r,dI s])<|No "row" v<|No "rows" Jb<|No "columns" Jb<|[])) _ _ ⟨_,rfl⟩ ?_ ?_
 ·rintro j Z L f ⟨v,rfl⟩ K E;have f:Z∈c:=QB f;dsimp only[bI,b8,aL,Qa,aM,aB,aA,bJ];refine cg ?_
  (dsimp only[bN,bt,bj,hV,aC,aE,bW];refine⟨rfl,?_⟩)
  refine b6 rfl ?_;dsimp only[fsts,dp,aC,aH,aW,aE,aI,aT,ct,aD,aF,Qa,aJ,aB,aA,aK,bo,bC,cw];refine bG dO (λo0=> .bool Jc) (λo d K k=> ?_) ?_
  ·dsimp only[bq,cF,b8,aM,Qa,aL,aB,aA,bJ];dsimp only[elD];dsimp only[cA,aQ,flags,aC,aH,aW,aE,aI,aT,aD,aJ,Qa,aF,aB,aA,aK,dm,bt];refine⟨(eV o).1,?_⟩;rw[(eV o).2]
   induction o with
   |none=>exact k
   |some i=>
    refine⟨rfl,?_⟩;refine g.hc<|ir e ?_;rw[Y6 (V.nc Z f i d)];exact k
  ·refine jW (dj _ _) ?_;rw[hY,Qv.mpr λo0 o0=>rfl];dsimp only[cm,aB];exact E _ ⟨_,rfl⟩
 ·rintro L ⟨v,rfl⟩;refine gZ ?_;refine cg ?_
  (dsimp only[cA,bt,aA,bN,aQ,flags,aC,aH,aE,aI,bj,bS,aG,bW,aP,aN,aD,aF,Qa,aJ,aB,aK,dY,cG,bR,tgl,bz,bI,bA,bE,jU,bo,aS,cE,cB,jI];refine⟨rfl,rfl,?_⟩)
  rw[Qd,V.R.len];refine g.hc<|lN e V.hr V.nr ?_
  (dsimp only[bt,cm,aB];refine⟨rfl,rfl,?_⟩)
  refine aY (lQ V.R) ?_;dsimp only[cE,cB];rw[Qd,(V.R.at_ V.R.h1).2];refine g.hc<|lN e V.hs V.ns ?_;dsimp only[bt,cm,aB];refine c7 rfl ?_
  (dsimp only[aQ,flags,aC,aH,aW,aE,aI,aT,aD,aF,Qa,aJ,aB,aA,aK,bR,tgl,bz,bI,bA,bE,aS,bC,ch,bO];refine⟨rfl,?_⟩)
  refine g.hc<|qw e V.R V.hr V.hs ?_;dsimp only[aA,bR,tgl,bz,bI,bA,bE,aB,aG,bB,fJ,aL,Qa,aM,bJ];refine bL ?_
  (dsimp only[cq,aX,aG,c4,deq,bj,gm,aC,aE,bW,aD,aF,Qa,aJ,aA,aB,aK,dp,bY,bt,aN,nH,wk,qj];refine⟨rfl,?_⟩)
  rw[fH,fH];dsimp only[AE];have m:=rn V.R.h1 V.n1;have F:=rn V.R.w1 V.n2;refine⟨m.1,?_⟩;rw[Y6 (show lmin ((Qc h).map (r1F c r))>=0 from m.2)]
  (dsimp only[aA];refine⟨rfl,?_⟩)
  refine⟨F.1,?_⟩;rw[Y6 (show lmin ((Qc w).map (r2F c s))>=0 from F.2)]
  (dsimp only[aA];refine⟨rfl,rfl,⟨rfl,rfl⟩,?_⟩)
  rw[Y6 V.eq];exact g.qr k
theorem qc(e:Env1 C G1 mg mb)(V:VOK c r s h w)(k:Q .none Jc):aR (aO C (n+4)) "need_view" [(.tup [dC c,dI r,dI s],b)] Q X:=by
 refine e.fn f8 (br 17 rfl) rfl λl u P PX g=> ?_;dsimp only[f8];dsimp only[aZ,cb,bv];refine cg ?_
 (dsimp only[bN,bt,aQ,flags,aC,aH,aE,aI,aD,aF,Qa,aA,aK,bR,tgl,bz,bI,bA,bE,aB,aS];refine⟨rfl,?_⟩)
 refine g.hc<|u9 e V ?_;dsimp only[bt,cm,aB];exact g.qn k
end
theorem jP{L:Type}{f:L->Int}{l:List L}(h:∀a∈l,0<=f a):0<=(l.map f).sum:=by
 induction l with
 |nil=>exact QX 0
 |cons a l i=>rw[Qo,QW];exact YD (h a (.head _)) (i λb R=>h b (.tail _ R))
theorem m7{L:Type}(f g:L->Int)(l:List L):(l.map f).sum-(l.map g).sum=(l.map λa=>f a-g a).sum:=by
 induction l with
 |nil=>rfl
 |cons a l i=>rw[Qo,Qo,Qo,QW,QW,QW,<-i];exact zr14 _ _ _ _
theorem km{L:Type}(f g:L->Int)(l:List L):(l.map f).sum+(l.map g).sum=(l.map λa=>f a+g a).sum:=by
 induction l with
 |nil=>rfl
 |cons a l i=>rw[Qo,Qo,Qo,QW,QW,QW,<-i];exact zr8 _ _ _ _
theorem nk{L:Type}(g:L->Option Int)(l:List L):(l.filterMap g).sum=(l.map λa=>(g a).getD 0).sum:=by
 induction l with
 |nil=>rfl
 |cons a l W=>
  induction h:g a with
  |none=>rw[List.filterMap_cons_none h,Qo,QW,h,W];exact(Wh _).symm
  |some i=>rw[List.filterMap_cons_some h,Qo,QW,QW,h,W];rfl
theorem h9{L:Type}(l:List L):(l.map λo0=>(0:Int)).sum=0:=by
 induction l with
 |nil=>rfl
 |cons a l i=>rw[Qo,QW,i];rfl
theorem oP(f:Nat->Nat->Int)(h w:Nat):((Qc h).map λr=>((Qc w).map λc=>f r c).sum).sum=((Qc w).map λc=>((Qc h).map λr=>f r c).sum).sum:=by
 induction h with
 |zero=>exact(h9 _).symm
 |succ h i=>
  rw[List.range_succ,QD,WV,i];have:(λc=>((Qc h++[h]).map λr=>f r c).sum)=λc=>((Qc h).map λr=>f r c).sum+f h c:=by
   funext c;rw[QD,WV];show _+(f h c+0)=_;rw[Kg]
  rw[this,<-km];show _+(((Qc w).map λc=>f h c).sum+0)=_;rw[Kg]
theorem y0(R:Rect t h w)(n:r<h):rowAt t r=(Qc w).map (cell t r):=by
 have l:=(R.at_ n).2;refine List.ext_getElem (by rw[l,Qd,QA]) λi N p=> ?_;rw[Yo,Wt,cell,Qi N];rfl
theorem tU{L:Type}{t:List (List L)}(R:Rect t h w):t=(Qc h).map (rowAt t):=by
 refine List.ext_getElem (by rw[R.len,Qd,QA]) λi N p=> ?_;rw[Yo,Wt,rowAt,Qi N];rfl
theorem Rect.range{L:Type}(f:Nat->Nat->L)(N:1<=h)(y:h<=8)(A:1<=w)(T:w<=8):Rect ((Qc h).map λr=>(Qc w).map λc=>f r c) h w:=by
 refine⟨by rw[Qd,QA],λr n=> ?_,N,y,A,T⟩;obtain⟨i,o0,rfl⟩:=Ql.mp n;rw[Qd,QA]
theorem jY{L:Type}(f:Nat->List L)(n:r<h):rowAt ((Qc h).map f) r=f r:=by
 rw[rowAt,Qs,Wp n];rfl
theorem fB{L:Type}(f:Nat->L)(h:c<w)(d:L):((Qc w).map f)[c]?.getD d=f c:=by
 rw[Qs,Wp h];rfl
def hv(t:List (List Int))(h:Nat->Nat->Bool)(r c:Nat):Int:=cond (h r c) (cell t r c) 0
theorem xz(t:List (List Int))(h:Nat->Nat->Bool)(r c:Nat):cell t r c-(cellO t h r c).getD 0=hv t h r c:=by
 unfold cellO hv;cases h r c with
 |true=>exact WF _
 |false=>exact Yy _
theorem tn(R:Rect t h w)(i:Nat->Nat->Bool)(q:k<h):r1F (cellsF t i h w) (rsF t) k=((Qc w).map λc=>hv t i k c).sum:=by
 rw[r1F,rsF,Qs,(R.at_ q).1,cellsF,jY _ q];show(rowAt t k).sum-_=_;rw[y0 R q,List.filterMap_map,nk,m7]
 congr 2
 funext c;exact xz t i k c
theorem uA{t:List (List Int)}{h w:Nat}(R:Rect t h w)(i:Nat->Nat->Bool){k:Nat}(q:k<w):r2F (cellsF t i h w) (csF t w) k=((Qc h).map λr=>hv t i r k).sum:=by
 rw[r2F,csF,fB _ q,cellsF,List.filterMap_map,nk];have e:(t.map λr=>r[k]?.getD 0).sum=((Qc h).map λr=>cell t r k).sum:=by
  conv=>lhs;rw[tU R]
  rw[QE];rfl
 rw[e,m7]
 congr 1
 refine Qm λr n=> ?_;show cell t r k-(((Qc w).map λc=>cellO t i r c)[k]?.getD Jb).getD 0=_;rw[fB _ q];exact xz t i r k
theorem xx(R:Rect t h w)(N:NN t)(i:Nat->Nat->Bool)(n:r<h)(C:c<w):0<=hv t i r c:=by
 unfold hv;cases i r c with
 |true=>exact(k7 R).mp N r c n C
 |false=>exact QX 0
theorem vok(R:Rect t h w)(N:NN t)(d:Nat->Nat->Bool):VOK (cellsF t d h w) (rsF t) (csF t w) h w:=by
 refine⟨Rect.range _ R.h1 R.h8 R.w1 R.w8,by rw[rsF,Qd];exact R.len,by rw[csF,Qd,QA],λZ o i V=> ?_,λi V=> ?_,λi V=> ?_,λk q=> ?_,λk q=> ?_,?_⟩
 ·obtain⟨r,n,rfl⟩:=Ql.mp o;obtain⟨c,C,e⟩:=Ql.mp V;unfold cellO at e
  induction U:d r c with
  |true=>rw[U] at e;exact ns e
  |false=>rw[U] at e;obtain rfl:=sj e;exact(k7 R).mp N r c (Qf.mp n) (Qf.mp C)
 ·obtain⟨r,n,rfl⟩:=Ql.mp V;have:=jP (f:=id) (l:=r) λa T=>N r n a T
  rwa [List.map_id] at this
 ·obtain⟨c,C,rfl⟩:=Ql.mp V;refine jP λr n=> ?_;refine N r n _ ?_;rw[Qi (by rw[R.row r n];exact Qf.mp C)];exact Wo _
 ·rw[tn R d q];exact jP λc C=>xx R N d q<|Qf.mp C
 ·rw[uA R d q];exact jP λr n=>xx R N d (Qf.mp n) q
 ·rw[Qm λk q=>tn R d<|Qf.mp q,Qm λk q=>uA R d (Qf.mp q)];exact oP _ h w
def cO(c:List (List (Option Int)))(a b:Nat):Option Int:=(rowAt c a)[b]?.getD Jb
section
variable{C:Cx}{mg mb:Jq->Option Jf}{n:Nat}{Q:D->Bool->Prop}{X:DX}
theorem jq(e:Env1 C G1 mg mb)(k:Q (.bool Jc) Jc):aR (aO C (n+1)) "_law_whole" [(.int i,b)] Q X:=by
 refine e.fn e8 (br 38 rfl) rfl λl c P PX g=> ?_;dsimp only[e8];dsimp only[aZ,cb,bv];refine bL ?_
 (dsimp only[cq,bN,aG,cN,bt,aD,aF,Qa,aA,aK,xI,gW,j5,xD];refine⟨rfl,rfl,?_⟩)
 exact g.qr k
end
def psF(c:List (List (Option Int)))(h w:Nat):List (Nat×Nat):=(allF h w).filter λp=> !(cO c p.1 p.2).isSome
theorem jA{p:Nat×Nat}(D:p∈psF c h w):p.1<h/\p.2<w/\cO c p.1 p.2=Jb:=by
 obtain⟨N,Y⟩:=Qh.mp D;refine⟨(allF_mem.mp N).1,(allF_mem.mp N).2,?_⟩
 induction e:cO c p.1 p.2 with
 |none=>rfl
 |some i=>rw[e] at Y;exact ft Y
theorem uW(R:Rect c h w)(T:a<h)(v:b<w):dsub (dR (rowAt c a)) (.int b)=Ja (dO (cO c a b)):=nE<|by rw[(R.at_ T).2];exact v
noncomputable abbrev dNs(l:List Nat):D:= .list (l.map λ(k:Nat)=> .int (k:Int))
noncomputable def zF(c:List (List (Option Int))):List (List Int):=c.map λr=>r.map λo=>o.getD 0
theorem Rect.z(R:Rect c h w):Rect (zF c) h w:=by
 refine⟨by rw[zF,Qd];exact R.len,λr T=> ?_,R.h1,R.h8,R.w1,R.w8⟩;obtain⟨y,H,rfl⟩:=Ql.mp T;rw[Qd];exact R.row y H
theorem z1(R:Rect c h w)(r:List Int)(q:k<h):r[k]?.getD 0-(rowAt (zF c) k).sum=r1F c r k:=by
 unfold r1F;rw[nk,show rowAt (zF c) k=(rowAt c k).map λo=>o.getD 0 from by rw[rowAt,zF,Qs,(R.at_ q).1];rfl];rfl
theorem z2(R:Rect c h w)(s:List Int)(q:k<w):s[k]?.getD 0-(csF (zF c) w)[k]?.getD 0=r2F c s k:=by
 unfold r2F csF;rw[fB _ q,nk,zF,QE]
 congr 2
 refine Qm λr T=> ?_;show(r.map λo=>o.getD 0)[k]?.getD 0=_;rw[Qs,Qi (by rw[R.row r T];exact q)];rfl
section
variable{C:Cx}{mg mb:Jq->Option Jf}{n:Nat}{Q:D->Bool->Prop}{X:DX}
theorem iS(e:Env1 C G1 mg mb)(R:Rect c h w)(k:Q (.list ((psF c h w).map dP)) Jc):aR (aO C (n+2)) "hidden_in" [(dC c,b)] Q X:=by
 refine e.fn fT (br 20 rfl) rfl λl u P PX g=> ?_;dsimp only[fT];dsimp only[aZ,cb,bv];refine bL ?_;refine cx rfl ?_
 (dsimp only[fsts,aC,aH,aW,aE,aI,aT,ct,aQ,flags,aD,aF,Qa,aA,aK,bo,aS,bC,ch,bO];refine⟨rfl,?_⟩)
 refine g.hc<|kP e R ?_;dsimp only[cw,aA,bo,bu];refine ca dP dP (λp=> !(cO c p.1 p.2).isSome) (λp D=> ?_) ?_
 ·obtain⟨N,Y⟩:=allF_mem.mp D;dsimp only[dP];dsimp only[bq,cF,b8,aM,Qa,aL,aB,aA,bJ];refine⟨λT q=> ?_,λo0 K k=> ?_⟩
  ·dsimp only[tstD];dsimp only[dm,bt,aP,aN,aD,aJ,Qa,aF,aB,aA,aK,gk,cG,dZ];refine aY (gD R N) ?_;refine aY (uW R N Y) ?_;refine⟨(eV _).1,?_⟩;rw[(eV _).2];exact q
  ·dsimp only[elD];dsimp only[aD,aJ,Qa,aF,aB,aA,aK,bR,tgl,bz,cy,bA,cp];exact k
 ·dsimp only[aG];exact g.qr k
theorem nV(e:Env1 C G1 mg mb)(R:Rect c h w)(k:Q (.list ((psF c h w).map dP)) Jc):aR (aO C (n+2)) "_law_hidden" [(.tup [dC c,dI r,dI s],b)] Q X:=by
 refine e.fn eL (br 40 rfl) rfl λl u P PX g=> ?_;dsimp only[eL];dsimp only[aZ,cb,bv];refine bL ?_;refine cx rfl ?_
 (dsimp only[fsts,aC,aH,aW,aE,aI,aT,ct,aQ,flags,aP,aN,aD,aF,Qa,aA,aK,bR,tgl,bz,bI,bA,bE,aB,dY,cG,bo,aS,bC,ch,bO];refine⟨rfl,?_⟩)
 refine g.hc<|xF e R dO ?_;dsimp only[cw,aA,bo,bu];refine ca dP dP (λp=> !(cO c p.1 p.2).isSome) (λp D=> ?_) ?_
 ·obtain⟨N,B⟩:=allF_mem.mp D;dsimp only[dP];dsimp only[bq,cF,b8,aM,Qa,aL,aB,aA,bJ];refine⟨λT Y=> ?_,λo0 K k=> ?_⟩
  ·dsimp only[tstD];dsimp only[dm,bt,aP,aN,aD,aJ,Qa,aF,aB,aA,aK,gk,cG,dZ,dY];refine aY (gD R N) ?_;refine aY (uW R N B) ?_;refine⟨(eV _).1,?_⟩;rw[(eV _).2];exact Y
  ·dsimp only[elD];dsimp only[aD,aJ,Qa,aF,aB,aA,aK,bR,tgl,bz,cy,bA,cp];exact k
 ·dsimp only[aG];exact g.qr k
theorem ie(e:Env1 C G1 mg mb){p:Nat->Bool}(L:m<=8)(k:Q (.bool Jc) Jc):aR (aO C (n+2)) "_law_numbers" [(dNs ((Qc m).filter p),b),(.int m,c)] Q X:=by
 refine e.fn et (br 39 rfl) rfl λl u P PX g=> ?_;dsimp only[et];dsimp only[aZ,cb,bv];refine cg ?_
 (dsimp only[cA,bt,aA,bN,bj,hV,aC,aE,bW,cN,aD,aF,Qa,aB,aK,l4,gW,cm];refine⟨rfl,rfl,?_⟩)
 refine b6 rfl ?_;dsimp only[fsts,dp,aC,aH,aW,aE,aI,aT,ct,aD,aF,Qa,aB,aA,aK,bo,bC,cw];refine bG (λ(k:Nat)=> .int (k:Int)) (λo0=> .bool Jc) (λi t K k=> ?_) ?_
 ·dsimp only[bq,cF,b8,aM,Qa,aL,aB,aA,bJ];dsimp only[elD]
  (dsimp only[aQ,flags,aC,aH,aW,aE,aI,aT,aD,aJ,Qa,aF,aB,aA,aK,bw,aG,bu,bC];refine⟨rfl,?_⟩)
  exact g.hc<|jq e k
 ·refine jW (dj _ _) ?_;rw[hY,Qv.mpr λo0 o0=>rfl];dsimp only[cm,aB];refine bL ?_;dsimp only[aX,aG,c4,deq,aD,aF,Qa,aB,aA,aK];refine cx rfl ?_;dsimp only[fsts,aC,aH,aW,aE,aI,aT,aD,aF,Qa,aA,aB,aK,bw,bu,g7,g8];refine⟨rg L,fU (λ(k:Nat)=> .int (k:Int)) p (λi t=> ?_) ?_⟩
  ·dsimp only[bq,cF,b8,aM,Qa,aL,aB,aA,bJ];refine⟨λT Y=> ?_,λo0 K k=> ?_⟩
   ·dsimp only[tstD];dsimp only[aX,bt,i6,aD,aJ,Qa,aF,aB,aA,aK];rw[jo];refine⟨⟨rfl,cj _ (λa=>f7 _ _) _⟩,?_⟩;rw[List.any_map];rw[show((Qc m).filter p).any ((λd=>D.eqv d<|.int i)∘λ(k:Nat)=> .int (k:Int))=p i from ?_]
    ·exact Y
    ·rw[Kn,Ke]
     constructor
     ·rintro ⟨x,hx,h⟩;have h:D.eqv (.int (x:Int)) (.int (i:Int))=Jc:=h;rw[bY,Uc] at h;have:x=i:=by exact KP.mp h
      rw[<-this];exact(Qh.mp hx).2
     ·intro U;exact⟨i,Qh.mpr ⟨Qf.mpr t,U⟩,c5 _⟩
   ·dsimp only[elD];dsimp only[aD,aJ,Qa,aF,aB,aA,aK,bw];exact k
  ·refine⟨⟨by rw[eS];exact cj _ (λa=>f7 _ _) _,by rw[eS];exact cj _ (λa=>f7 _ _) _⟩,?_⟩;rw[c5];exact g.qr k
theorem pq(e:Env1 C G1 mg mb){r s:List Int}(R:Rect c h w)(T:r.length=h)(E:s.length=w)(k:Q (.tup [dI ((Qc h).map (r1F c r)),dI ((Qc w).map (r2F c s))]) Jc):
  aR (aO C<|n+2) "_law_rests" [(.tup [dC c,dI r,dI s],b)] Q X:=by
 refine e.fn fu (br 37 rfl) rfl λM u P PX g=> ?_;dsimp only[fu];dsimp only[aZ,cb,bv];have Z:=R.z;refine bl ?_;refine b6 rfl ?_;dsimp only[fsts,aC,aH,aW,aE,aI,aT,ct,aP,aN,aD,aF,Qa,aJ,aB,aA,aK,bR,tgl,bz,bI,bA,bE,dY,cG,bo,bC,cw];refine bG dR (λH=>dI<|H.map λo=>o.getD 0) (λH f K k=> ?_) ?_
 ·dsimp only[bq,cF,b8,aM,Qa,aL,aB,aA,bJ];dsimp only[elD];refine b6 rfl ?_;dsimp only[fsts,aC,aH,aW,aE,aI,aT,ct,aD,aJ,Qa,aF,aB,aA,aK,bo,bC,cw];refine bG dO (λo=> .int (o.getD 0)) (λo d K k=> ?_) ?_
  ·dsimp only[bq,cF,b8,aM,Qa,aL,aB,aA,bJ];dsimp only[elD]
   (dsimp only[aP,bj,vf,aC,aE,bW,dm,bt,aD,aJ,Qa,aF,aB,aA,aK,bH,fsts,dnew,aH,aU,aW,aI,aV,aT,aN,bu];refine⟨by decide,rfl,?_⟩)
   refine⟨(eV _).1,?_⟩;rw[(eV _).2]
   induction o with
   |none=>exact k
   |some i=>exact k
  ·rw[dI,QE] at k;exact k
 dsimp only[bB,aG,aL,Qa,aM,aB,aA];rw[show(c.map λH=>dI<|H.map λo=>o.getD 0)=(zF c).map dI from by rw[zF,QE];rfl];refine bl ?_;refine b6 rfl ?_
 (dsimp only[fsts,aC,aH,aW,aE,aI,aT,bj,bS,bu,g7,g8,bW,aD,aF,Qa,aJ,aB,aA,aK,cE,cB];refine⟨rfl,?_⟩)
 rw[Z.lenD];refine⟨rg R.h8,cS (λk=> .int (r1F c r k)) (λi t K k=> ?_) ?_⟩
 ·dsimp only[bq,cF,b8,aM,Qa,aL,aB,aA,bJ];dsimp only[elD];dsimp only[bp,bj,gm,aC,aE,bW,aP,aD,aJ,Qa,aF,aB,aA,aK,aN,bR,tgl,bz,bI,bA,bE,jI,cG,bo];refine aY (gp<|by rw[T];exact t) ?_
  (dsimp only[bw,eH];refine⟨rfl,?_⟩)
  refine aY (iw Z t) ?_;dsimp only[dp];refine gx (fH _) ?_;rw[z1 R r t];exact k
 dsimp only[bB,aG,aL,Qa,aM,aB,aA];refine bl ?_
 (dsimp only[aQ,flags,aC,aH,aW,aE,aI,aT,aD,aF,Qa,aJ,aB,aA,aK,bo,aS,bC,ch,bO];refine⟨rfl,?_⟩)
 refine g.hc<|AA e Z ?_;dsimp only[aA,bo,bB,aG,aL,Qa,aM,aB];refine cZ ?_
 (dsimp only[dU,cX,aU,dX,aV,lG,cf,aL,Qa,aB,aA,aF,aK,bI];refine⟨rfl,?_⟩)
 refine b6 rfl ?_
 (dsimp only[fsts,aC,aH,aW,aE,aI,aT,bj,bS,bu,g7,g8,bW,aD,aF,Qa,aA,aB,aK,cE,cB];refine⟨rfl,?_⟩)
 have l:(csF (zF c) w).length=w:=by rw[csF,Qd,QA]
 rw[Qd,l];refine⟨rg R.w8,cS (λk=> .int (r2F c s k)) (λi t K k=> ?_) ?_⟩
 ·dsimp only[bq,cF,b8,aM,Qa,aL,aB,aA,bJ];dsimp only[elD];dsimp only[bp,aP,aD,aJ,Qa,aF,aB,aA,aK,bo,aN,bR,tgl,bz,bI,bA,bE,jU,cG];rw[gp (by rw[l];exact t)];dsimp only[cG,bw];refine aY (gp<|by rw[E];exact t) ?_;dsimp only[eH];rw[z2 R s t];exact k
 ·refine⟨rfl,by decide,?_⟩;rw[dI,dI,QE,QE] at k;exact g.qr k
theorem An(e:Env1 C G1 mg mb){r s:List Int}(R:Rect c h w)(T:r.length=h)(H:s.length=w){A B:List Nat}(E:∀a∈A,a<h)(M:∀a∈B,a<w)(k:Q (.int ((A.map (r1F c r)).sum-(B.map (r2F c s)).sum)) Jc):
  aR (aO C<|n+3) "_law_gap" [(.tup [dC c,dI r,dI s],b),(dNs A,G),(dNs B,P)] Q X:=by
 refine e.fn gT (br 41 rfl) rfl λl u N PX g=> ?_;dsimp only[gT];dsimp only[aZ,cb,bv];refine c7 rfl ?_
 (dsimp only[aQ,flags,aC,aH,aW,aE,aI,aT,aD,aF,Qa,aJ,aB,aA,aK,bR,tgl,bz,bI,bA,bE,aS,bC,ch,bO];refine⟨rfl,?_⟩)
 refine g.hc<|pq e R T H ?_;dsimp only[aA,bR,tgl,bz,bI,bA,bE,aB,aG,bB,fJ,aL,Qa,aM,bJ];refine bL ?_
 (dsimp only[bp,bj,gm,aC,aE,bW,eH,aG];refine⟨rfl,?_⟩)
 refine b6 rfl ?_;dsimp only[fsts,dp,aC,aH,aW,aE,aI,aT,ct,aD,aF,Qa,aB,aA,aK,bo,bC,cw];refine bG (λ(k:Nat)=> .int (k:Int)) (λk=> .int (r1F c r k)) (λi t K k=> ?_) ?_
 ·dsimp only[bq,cF,b8,aM,Qa,aL,aB,aA,bJ];dsimp only[elD];dsimp only[aP,aD,aJ,Qa,aF,aB,aA,aK,bo];rw[gp (by rw[Qd,QA];exact E i t),fB _ (E i t)];exact k
 refine gx (d3 _ _) ?_;refine⟨rfl,?_⟩;refine b6 rfl ?_;dsimp only[fsts,dp,aC,aH,aW,aE,aI,aT,ct,aD,aF,Qa,aB,aA,aK,bo,bC,cw];refine bG (λ(k:Nat)=> .int (k:Int)) (λk=> .int (r2F c s k)) (λi t K k=> ?_) ?_
 ·dsimp only[bq,cF,b8,aM,Qa,aL,aB,aA,bJ];dsimp only[elD];dsimp only[aP,aD,aJ,Qa,aF,aB,aA,aK,bo];rw[gp (by rw[Qd,QA];exact M i t),fB _ (M i t)];exact k
 refine gx (d3 _ _) ?_;exact g.qr k
theorem iA(A:List Nat)(i:Nat):((A.map λ(k:Nat)=>D.int (k:Int)).any λd=>D.eqv d (.int (i:Int)))=decide (i∈A):=by
 rw[List.any_map,Kn,Ke,Uc]
 constructor
 ·rintro ⟨x,hx,h⟩;have h:D.eqv (.int (x:Int)) (.int (i:Int))=Jc:=h;rw[bY,Uc] at h;rw[show i=x by exact(KP.mp h).symm];exact hx
 ·exact λt=>⟨i,t,c5 _⟩
end
noncomputable def upd{α u:Type}[DecidableEq α](g:α->u)(x:α)(v:u):α->u:=λy=>if y=x then v else g y
theorem bV{α u:Type}[DecidableEq α](g:α->u)(x:α)(v:u):upd g x v x=v:=Ua rfl
theorem ck{α u:Type}[DecidableEq α](g:α->u){x y:α}(v:u)(h:y≠x):upd g x v y=g y:=Y9 h
theorem nX{α u t:Type}[DecidableEq α](f:u->t)(g:α->u)(x:α)(v:u):upd (λy=>f (g y)) x (f v)=λy=>f (upd g x v y):=by
 funext y;by_cases h:y=x
 ·subst h;rw[bV,bV]
 ·rw[ck _ _ h,ck _ _ h]
noncomputable abbrev md{α:Type}(kf:α->List KA)(g:α->D)(xs:List α):D:= .dict (xs.map kf) (xs.map g)
noncomputable def withx{α:Type}[DecidableEq α](xs:List α)(x:α):List α:=if x∈xs then xs else xs++[x]
section
variable{α:Type}[DecidableEq α]{kf:α->List KA}(inj:∀a b,kf a=kf b->a=b){g:α->D}
include inj
theorem kF:∀ {xs:List α},x∈xs->∃j,kidx (xs.map kf) (kf x)=Ja j/\xs[j]? =Ja x
 |y::r,h=>by
  by_cases e:y=x
  ·subst e;exact⟨0,Ua rfl,rfl⟩
  ·obtain⟨j,N,p⟩:=kF ((Qw.mp h).resolve_left λq=>e q.symm);refine⟨j+1,?_,p⟩;show(if kf y=kf x then Ja 0 else(kidx (r.map kf)<|kf x).map (· +1))=_;rw[Y9 λq=>e<|inj _ _ q,N];rfl
theorem rx:∀ {xs:List α},x∉xs->kidx (xs.map kf) (kf x)=Jb
 |[]=>λo0=>rfl
 |y::r=>λh=>by
  show(if kf y=kf x then Ja 0 else(kidx (r.map kf)<|kf x).map (· +1))=_;rw[Y9 λq=>h<|by rw[inj y x q];exact .head _,rx λq=>h (.tail _ q)];rfl
theorem nU{xs:List α}:(kidx (xs.map kf) (kf x)).isSome=decide (x∈xs):=by
 by_cases h:x∈xs
 ·obtain⟨j,N,o0⟩:=kF inj h;rw[N,Y6 h];rfl
 ·rw[rx inj h,Y7 h];rfl
theorem mR{xs:List α}(h:x∈xs):dlook (xs.map kf) (xs.map g) (kf x)=Ja (g x):=by
 obtain⟨j,N,p⟩:=kF inj h;unfold dlook;rw[N];show(xs.map g)[j]? =_;rw[Qs,p];rfl
theorem oW{xs:List α}(h:x∉xs):dlook (xs.map kf) (xs.map g) (kf x)=Jb:=by
 unfold dlook;rw[rx inj h];rfl
omit inj in
theorem map_set{xs:List α}(nd:xs.Nodup){x:α}{j:Nat}(h:xs[j]? =Ja x)(v:D):(xs.map g).set j v=xs.map (upd g x v):=by
 refine Wz λi=> ?_;have H:j<xs.length:=(QF.mp h).1;rw[KQ,Qd,Ua H,Qs,Qs];by_cases e:j=i
 ·subst e;rw[Ua rfl,h];show Ja v=Ja (upd g x v x);rw[bV]
 ·rw[Y9 e]
  induction t:xs[i]? with
  |none=>rfl
  |some y=>
   have:y≠x:=by
    rintro rfl;exact e<|(List.getElem?_inj H nd).mp (h.trans t.symm)
   show Ja (g y)=Ja (upd g x v y);rw[ck _ _ this]
omit inj in
theorem rC{xs:List α}{x:α}(h:x∉xs)(v:D):xs.map g++[v]=(xs++[x]).map (upd g x v):=by
 rw[QD];show _=xs.map (upd g x v)++[upd g x v x]
 rw[bV]
 congr 1
 exact Qm λy W=>(ck g v λq=>h<|by rw[<-q];exact W).symm
theorem yw{xs:List α}(nd:xs.Nodup)(v:D):dkset (xs.map kf) (xs.map g) (kf x) v=md kf (upd g x v) (withx xs x):=by
 unfold dkset withx md;by_cases h:x∈xs
 ·obtain⟨j,N,p⟩:=kF inj h;rw[N,Ua h,<-map_set nd p]
 ·rw[rx inj h,Y9 h,<-rC h,QD];rfl
theorem yE{xs:List α}:dens (xs.map kf) (xs.map g) (kf x)=if x∈xs then md kf g xs else md kf (upd g x (.list [])) (xs++[x]):=by
 unfold dens;by_cases h:x∈xs
 ·rw[mR inj h,Ua h]
 ·rw[oW inj h,Y9 h];unfold md;rw[<-rC h,QD];rfl
theorem cU{d:D}(v:keyD d=Ja (kf x))(h:x∈xs):dsub (md kf g xs) d=Ja (g x):=by
 show((keyD d).bind λk=>dlook (xs.map kf) (xs.map g) k)=_;rw[v];exact mR inj h
theorem yR{xs:List α}(nd:xs.Nodup){d v:D}(q:keyD d=Ja (kf x))(h:x∈xs):dset1 d (λo0=>Ja v) (md kf g xs)=Ja (md kf (upd g x v) xs):=by
 obtain⟨j,N,p⟩:=kF inj h;show((keyD d).bind λk=>(kidx (xs.map kf) k).bind λj=>((xs.map g)[j]?).bind λx=>Wj (λy=>D.dict (xs.map kf)<|(xs.map g).set j y)<|Ja v)=_;rw[q];show((kidx (xs.map kf)<|kf x).bind λj=>((xs.map g)[j]?).bind λx=>Wj (λy=>D.dict (xs.map kf)<|(xs.map g).set j y)<|Ja v)=_;rw[N];show(((xs.map g)[j]?).bind λx=>Wj (λy=>D.dict (xs.map kf)<|(xs.map g).set j y)<|Ja v)=_;rw[Qs,p];show Ja (D.dict (xs.map kf)<|(xs.map g).set j v)=_;rw[map_set nd p]
end
theorem ja{α:Type}[DecidableEq α]{xs:List α}(nd:xs.Nodup)(x:α):(withx xs x).Nodup:=by
 unfold withx
 split
 ·exact nd
 ·rename_i h
  exact Qu.mpr ⟨nd,Qx.mpr ⟨λq=>(bQ q),.nil⟩,λa T b R q=>h<|by rw[Qj.mp R] at q;exact q▸T⟩
theorem withx_mem{α:Type}[DecidableEq α]{xs:List α}{x y:α}:y∈withx xs x↔y∈xs\/y=x:=by
 unfold withx
 split
 ·rename_i h
  exact⟨.inl,λq=>q.elim id λq=>q▸h⟩
 ·rw[Qr,Qj]
theorem xE{α:Type}(kf:α->List KA)(g:α->D)(xs:List α):md kf g xs= .dict (xs.map kf) (xs.map g):=rfl
section
variable{G:Gx}{cl cu:DCl}{Δ:DRho}{Q:bX}{X:DSX}{r:List S}{α:Type}[DecidableEq α]{kf:α->List KA}{g:α->D}{xs:List α}
theorem sW(inj:∀a b,kf a=kf b->a=b){x:String}{k e:E}{a:α}{old:List D}{dk dv:D}(hx:Δ.get x=Ja (md kf g xs,Jc))(nd:xs.Nodup)(l:xs.length<lim)(M:keyD dk=Ja (kf a))(Y:old.length<lim)
  (S:a∈xs->g a= .list old)(o:a∉xs->old=[])
  (N:∀ (Q:DQ) (X:DX),Q dk Jb->dwe G cl k Δ Q X)(we:∀ (z:D) (Q:DQ) (X:DX),Q dv Jb->dwe G cl e (Δ.put x (z,Jc)) Q X)
  (h:dwss G cl cu r (Δ.put x (md kf (upd g a<|.list (old++[dv]))<|withx xs a,Jc)) Q X):dwss G cl cu (.expr (.meth (.sd (.loc x) k) .append [e])::r) Δ Q X:=by
 refine zE ?_;show dsd G cl .append [e] Δ (λP=>dwss G cl cu r P Q X) x k;unfold dsd;rw[hx,aK];refine⟨rfl,?_⟩;rw[xE,vS];refine N _ _ ⟨by rw[Qd];exact l,?_⟩;rw[M,pe,yE inj];dsimp only;have fin:∀ (i:α->D) (s:List α),s.Nodup->a∈s->i a= .list old->md kf (upd i a<|.list (old++[dv])) s=md kf (upd g a<|.list (old++[dv])) (withx xs a)->
   dOD (λZ=>drecv .append Z/\dwes G cl [e] (Δ.put x (md kf i s,Jc)) (λw=>tjs w=Jb/\dmeth .append (fsts w) Z λB=>dOD (λd=>dwss G cl cu r (Δ.put x (d,Jc)) Q X)<|dset1 dk (λo0=>Ja B) (md kf i s)) λo0 o0=>False) (dsub (md kf i s) dk):=λi s T m v q=>by
  rw[cU inj M m,cG,v];refine⟨trivial,?_⟩;rw[aC];refine we _ _ _ ?_;rw[aE];refine⟨rfl,Y,?_⟩;dsimp only;rw[yR inj T M m,cG,q];exact h
 by_cases m:a∈xs
 ·rw[Ua m];exact fin g xs nd m (S m)<|by unfold withx;rw[Ua m]
 ·rw[Y9 m];have H:withx xs a=xs++[a]:=by unfold withx;rw[Y9 m]
  refine fin _ (xs++[a]) (H▸ja nd a) (Qe _<|.head _) (by rw[bV,o m]) ?_;rw[H]
  congr 1
  funext y;by_cases W:y=a
  ·subst W;rw[bV,bV]
  ·rw[ck _ _ W,ck _ _ W,ck _ _ W]
theorem jE(inj:∀a b,kf a=kf b->a=b)(hx:Δ.get x=Ja (md kf g xs,Jc))(nd:xs.Nodup)(l:xs.length<lim)(q:keyD dk=Ja (kf a))
  (we:∀ (Q:D->DRho->Prop),Q dv Δ->dwm G cl e Δ Q)(w:∀ (Q:DQ) (X:DX),Q dk Jb->dwe G cl k Δ Q X)
  (h:dwss G cl cu r (Δ.put x (md kf (upd g a dv)<|withx xs a,Jc)) Q X):dwss G cl cu (.setIdx (.loc x) k e::r) Δ Q X:=by
 refine n0<|we _ ?_;rw[kG,hx,aK];refine⟨rfl,w _ _ ?_⟩;rw[xE,Bf];refine⟨by rw[Qd];exact l,?_⟩;rw[q,pe,yw inj nd];show dOE _ (Δ.get x);rw[hx,aK];exact h
end
set_option genCtorIdx false in set_option genInjectivity true in
inductive Nd where
 |r(i:Nat)|c(j:Nat)
noncomputable abbrev Nd.ctorIdx(x:Nd):Nat:=Nd.casesOn x (λo0=>0) (λo0=>1)
deriving instance DecidableEq for Nd
abbrev Pl:=Nat×Nat
noncomputable def Nd.key:Nd->List KA
 | .r i=>[.t "row",.n i]
 | .c j=>[.t "column",.n j]
noncomputable def dN:Nd->D
 | .r i=> .tup [.str "row",.int i]
 | .c j=> .tup [.str "column",.int j]
noncomputable def pkey(p:Pl):List KA:=[.n p.1,.n p.2]
theorem f9(x:Nd):keyD (dN x)=Ja x.key:=by rcases x with⟨⟩<;>rfl
theorem cW(p:Pl):keyD (dP p)=Ja (pkey p):=rfl
theorem du:∀a b:Nd,a.key=b.key->a=b
 | .r i,.r j=>λh=>by injection h with _ h;injection h with h;injection h with h;rw[KP.mp h]
 | .c i,.c j=>λh=>by injection h with _ h;injection h with h;injection h with h;rw[KP.mp h]
 | .r i,.c j=>λh=>by injection h with h;injection h with h;exact absurd h<|by decide
 | .c i,.r j=>λh=>by injection h with h;injection h with h;exact absurd h<|by decide
theorem b7(a b:Pl)(h:pkey a=pkey b):a=b:=by
 injection h with h1 h;injection h1 with h1;injection h with h2;injection h2 with h2;exact Prod.ext (KP.mp h1)<|KP.mp h2
def dE(e:Nd×Pl):D:= .tup [dN e.1,dP e.2]
noncomputable def nbrs(ps:List Pl):Nd->List (Nd×Pl)
 | .r i=>(ps.filter λp=>decide (p.1=i)).map λp=>(.c p.2,p)
 | .c j=>(ps.filter λp=>decide (p.2=j)).map λp=>(.r p.1,p)
def nearG(ps:List Pl)(x:Nd):D:= .list ((nbrs ps x).map dE)
theorem eJ(x:Nd):(dN x).atom=Jc:=by rcases x with⟨⟩<;>rfl
theorem ma(ps:List Pl)(p:Pl)(x:Nd):nbrs (ps++[p]) x=nbrs ps x++(if x= .r p.1 then [(.c p.2,p)] else if x= .c p.2 then [(.r p.1,p)] else []):=by
 induction x with
 |r i=>
  show Ky _ (Wg _ _)=_;rw[List.filter_append,QD];by_cases h:p.1=i
  ·subst h;rw[Ua rfl,QZ (by simp)];rfl
  ·rw[Y9 (λq=>h (Nd.r.inj q).symm),Y9 (λq=>nomatch q),Ka (by simpa using h)];rfl
 |c j=>
  show Ky _ (Wg _ _)=_;rw[List.filter_append,QD];by_cases h:p.2=j
  ·subst h;rw[Y9 (λq=>nomatch q),Ua rfl,QZ (by simp)];rfl
  ·rw[Y9 (λq=>nomatch q),Y9<|λq=>h (Nd.c.inj q).symm,Ka (by simpa using h)];rfl
theorem t8(ps:List Pl)(x:Nd):(nbrs ps x).length<=ps.length:=by
 induction x with
 |r i=>show(Ky _ _).length<=_;rw[Qd];exact KX _ _
 |c i=>show(Ky _ _).length<=_;rw[Qd];exact KX _ _
structure NearX(ps:List Pl)(xs:List Nd):Prop where
 nd:xs.Nodup
 len:xs.length<=2*ps.length
 out:∀x,x∉xs->nbrs ps x=[]
theorem jS{α:Type}[DecidableEq α](xs:List α)(x:α):(withx xs x).length<=xs.length+1:=by
 unfold withx
 split
 ·exact Wf _
 ·rw[QG];exact Qy _
theorem NearX.snoc{ps:List Pl}{xs:List Nd}(h:NearX ps xs)(p:Pl):NearX (ps++[p]) (withx (withx xs (.r p.1)) (.c p.2)):=by
 refine⟨ja (ja h.nd _) _,?_,λx hx=> ?_⟩
 ·have N:=jS (withx xs<|.r p.1)<|.c p.2;have Y:=jS xs<|.r p.1;have J:=h.len;rw[QG,WE];exact zle N<|Kw (zle Y<|Kw J)
 ·rw[withx_mem,withx_mem,not_or,not_or] at hx;rw[ma,h.out x hx.1.1,Y9 hx.1.2,Y9 hx.2];rfl
theorem sh(ps:List Pl)(p:Pl):upd (upd (nearG ps) (.r p.1) (.list ((nbrs ps (.r p.1)).map dE++[dE (.c p.2,p)]))) (.c p.2) (.list ((nbrs ps (.c p.2)).map dE++[dE (.r p.1,p)]))=nearG (ps++[p]):=by
 funext x;unfold nearG;rw[ma,QD];by_cases h:x= .c p.2
 ·subst h;rw[bV,Y9 (λq=>nomatch q),Ua rfl];rfl
 ·rw[ck _ _ h];by_cases N:x= .r p.1
  ·subst N;rw[bV,Ua rfl];rfl
  ·rw[ck _ _ N,Y9 N,Y9 h,WG,QH]
section
variable{C:Cx}{mg mb:Jq->Option Jf}{n:Nat}{Q:D->Bool->Prop}{X:DX}
theorem pM(e:Env1 C G1 mg mb){ps:List Pl}(D:ps.length<=64){b:Bool}(k:∀xs,NearX ps xs->Q (md Nd.key (nearG ps) xs) Jc):aR (aO C (n+1)) "near_of" [(.list (ps.map dP),b)] Q X:=by
 refine e.fn ip (br 0 rfl) rfl λcl cu P PX F=> ?_;dsimp only[ip];dsimp only[aZ,cb,bv];refine bl ?_
 (dsimp only[iy,bB,aG,aL,Qa,aM,aB,aA];refine⟨rfl,?_⟩)
 refine dz rfl ?_;dsimp only[fsts,aC,aH,aW,aE,aI,aT,ct,aD,aF,Qa,aJ,aB,aA,aK,bo,bC,fR,fQ,fO,fP,bI,bE,fK,dW,gn,cJ,fN,fM,cw];refine cK dP (λi Δ=>X3 λv xs c=>NearX (ps.take i) xs/\Δ=(Nb "places" c (.list<|ps.map dP)<|Nb "found" Jc (md Nd.key (nearG<|ps.take i) xs)<|No "place" v<|[])) _ _ ⟨_,[],_,⟨.nil,QT _,λx o0=>by rcases x with⟨⟩<;>rfl⟩,rfl⟩ ?_ ?_
 ·rintro j p Δ H ⟨v,xs,c,N,rfl⟩ K m;have E:ps.take (j+1)=ps.take j++[p]:=by rw[List.take_add_one,H];rfl
  have l:(ps.take j).length<=64:=by rw[Yq];exact zle (WK _ _) D
  have h:=N.len;generalize ps.take j=s at N E l h ⊢;have R:∀x,((nbrs s x).map dE).length<lim:=λx=>by rw[Qd];exact c6 (by have:=t8 s x;exact zb1 (zle this l) rfl)
  dsimp only[b8,aL,Qa,aM,aA,aB,bJ];refine sW du (a:= .r p.1) (g:=nearG s) (xs:=xs) (dk:=dN<|.r p.1) (dv:=dE (.c p.2,p)) (old:=(nbrs s<|.r p.1).map dE) rfl N.nd (c6<|by exact zb1 (zle h<|WN 2 l) rfl) (f9 _) (R _) (λo0=>rfl) (λq=>by rw[N.out _ q];rfl) (λQ X q=> ?_) (λd Q X q=> ?_) ?_
  ·dsimp only[dP];dsimp only[gE,bz,cy,bA,cp,bK,fsts,dtup,aC,aH,aU,aW,aE,aI,aV,aT,aP,aN,aD,aF,Qa,aA,aB,aK,bR,tgl,dZ,cG,bw,bu,b9];refine gK ?_
   (dsimp only[bu];refine⟨by decide,?_⟩)
   exact q
  ·dsimp only[dP];dsimp only[gE,bz,cy,bA,cp,aL,Qa,aB,aA,bK,fsts,dtup,aC,aH,aU,aW,aE,aI,aV,aT,aD,aF,aK,bR,tgl,bu,aP,aN,gk,cG,bw,b9];refine gq ?_
   (dsimp only[bu];refine⟨by decide,by decide,?_⟩)
   exact q
  dsimp only[aL,Qa,aB,aA];have Y:=jS xs<|.r p.1;refine sW du (a:= .c p.2) (dk:=dN<|.c p.2) (dv:=dE (.r p.1,p)) (old:=(nbrs s<|.c p.2).map dE) rfl (ja N.nd _) (c6<|by exact zb1 (zle Y<|Kw (zle h<|WN 2 l)) rfl) (f9 _) (R _) (λo0=>ck (nearG s) (y:=Nd.c p.2) _ (λq=>nomatch q)) (λq=>by rw[N.out _ λz=>q (withx_mem.mpr<|.inl z)];rfl) (λQ X q=> ?_) (λd Q X q=> ?_) ?_
  ·dsimp only[dP];dsimp only[gE,bz,cy,bA,cp,bK,fsts,dtup,aC,aH,aU,aW,aE,aI,aV,aT,aP,aN,aD,aF,Qa,aA,aB,aK,bR,tgl,gk,cG,bw,bu,b9];refine gq ?_
   (dsimp only[bu];refine⟨by decide,?_⟩)
   exact q
  ·dsimp only[dP];dsimp only[gE,bz,cy,bA,cp,aL,Qa,aB,aA,bK,fsts,dtup,aC,aH,aU,aW,aE,aI,aV,aT,aD,aF,aK,bR,tgl,bu,aP,aN,dZ,cG,bw,b9];refine gK ?_
   (dsimp only[bu];refine⟨by decide,by decide,?_⟩)
   exact q
  dsimp only[aL,Qa,aB,aA];rw[sh];exact m _ ⟨_,_,_,E▸N.snoc p,by rw[E];rfl⟩
 ·rintro Δ ⟨v,xs,c,N,rfl⟩;rw[Kj] at N;refine cZ ?_;rw[Kj]
  (dsimp only[cf,aL,Qa,aM,aB,aA,aF,aJ,aK,dW];refine⟨rfl,?_⟩)
  exact F.qr<|k xs N
end
theorem tZ{L:Type}[DecidableEq L]:∀ {xs ys:List L},xs.Nodup->(∀x∈xs,x∈ys)->xs.length<=ys.length:=λ{xs}=>by
 induction xs with
 |nil=>exact λ{ys} _ _=>QT _
 |cons x xs i=>
  intro ys nd h;obtain⟨Y,n⟩:=Qx.mp nd;have hx:=h x<|.head _;have:=i (ys:=ys.erase x) n λy W=>(List.mem_erase_of_ne<|λ(q:y=x)=>Y<|q▸W).mpr (h y<|.tail _ W);rw[List.length_erase_of_mem hx] at this;exact Nat.add_le_of_le_sub (List.length_pos_of_mem hx) this
abbrev Par:=Nd->Option (Nd×Pl)
abbrev Bs:=List Nd×Par
noncomputable def Nd.isR:Nd->Bool
 | .r _=>Jc
 | .c _=>Jd
noncomputable def okE(x:Pl->Int)(z:Nd)(p:Pl):Bool:=z.isR||decide (x p>0)
def stp(x:Pl->Int)(z:Nd)(s:Bs)(e:Nd×Pl):Bs:=if e.1∉s.1/\okE x z e.2=Jc then(s.1++[e.1],upd s.2 e.1<|Ja (z,e.2)) else s
noncomputable def bfsO(s:Bs)(f:Nd->Bs):Option Nd->Bs
 |some z=>f z
 |none=>s
noncomputable def bfs(ps:List Pl)(x:Pl->Int):Nat->Nat->Bs->Bs
 |0,_,s=>s
 |k+1,i,s=>bfsO s (λz=>bfs ps x k (i+1) ((nbrs ps z).foldl (stp x z) s)) s.1[i]?
theorem um(ps:List Pl)(x:Pl->Int)(k i:Nat)(s:Bs):bfs ps x (k+1) i s=bfsO s (λz=>bfs ps x k (i+1) ((nbrs ps z).foldl (stp x z) s)) s.1[i]? :=rfl
noncomputable def allN(h w:Nat):List Nd:=(Qc h).map .r++(Qc w).map .c
structure Bfs(ps:List Pl)(x:Pl->Int)(st:List Nd)(h w:Nat)(s:Bs):Prop where
 nd:s.1.Nodup
 val:∀y∈s.1,y∈allN h w
 has:∀y∈st,y∈s.1
 par:∀ (j:Nat) (y:Nd),s.1[j]? =Ja y->(s.2 y=Jb/\y∈st)\/X3 λ(z:Nd) (p:Pl) (i:Nat)=>A5 (s.2 y=Ja (z,p)) (i<j) (s.1[i]? =Ja z) ((y,p)∈nbrs ps z)<|okE x z p=Jc
theorem Bfs.len{x:Pl->Int}{s:Bs}(b:Bfs ps x st h w s):s.1.length<=h+w:=by
 have:=tZ b.nd b.val
 rwa [allN,QG,Qd,Qd,QA,QA] at this
def Clo(ps:List Pl)(x:Pl->Int)(n:Nat)(s:Bs):Prop:=∀i z,i<n->s.1[i]? =Ja z->∀e∈nbrs ps z,okE x z e.2=Jc->e.1∈s.1
theorem rk(x:Pl->Int)(z:Nd)(s:Bs)(e:Nd×Pl):s.1<+:(stp x z s e).1:=by
 unfold stp
 split
 ·exact List.prefix_append _ _
 ·exact List.prefix_refl _
theorem i3(x:Pl->Int)(z:Nd):∀ (es:List (Nd×Pl)) (s:Bs),s.1<+:(es.foldl (stp x z) s).1
 |[]=>λs=>List.prefix_refl _
 |e::es=>λs=>(rk x z s e).trans (i3 x z es _)
theorem sP(x:Pl->Int)(z:Nd):∀ (es:List (Nd×Pl)) (s:Bs),∀e∈es,okE x z e.2=Jc->e.1∈(es.foldl (stp x z) s).1:=λes=>by
 induction es with
 |nil=>exact λs f j=>bQ j
 |cons e es i=>
  intro s f j o
  rcases Qw.mp j with rfl|j
  ·refine(i3 x z es _).subset ?_;unfold stp;by_cases q:f.1∉s.1/\okE x z f.2=Jc
   ·rw[Ua q];exact Qe _<|.head _
   ·rw[Y9 q];exact Classical.byContradiction λw=>q ⟨w,o⟩
  ·exact i _ f j o
theorem qX{L:Type}{l m:List L}(h:l<+:m){i:Nat}{a:L}(e:l[i]? =Ja a):m[i]? =Ja a:=by
 obtain⟨t,rfl⟩:=h;rw[Wm (QF.mp e).1];exact e
theorem rp(D:∀p∈ps,p.1<h/\p.2<w){z:Nd}{e:Nd×Pl}(O:e∈nbrs ps z):e.2∈ps/\e.1∈allN h w:=by
 induction z with
 |r i=>
  obtain⟨p,N,rfl⟩:=Ql.mp O;have N:=(Qh.mp N).1;exact⟨N,Qe _<|Ql.mpr ⟨_,Qf.mpr (D p N).2,rfl⟩⟩
 |c j=>
  obtain⟨p,N,rfl⟩:=Ql.mp O;have N:=(Qh.mp N).1;exact⟨N,Qk _<|Ql.mpr ⟨_,Qf.mpr (D p N).1,rfl⟩⟩
section
variable{ps:List Pl}{x:Pl->Int}{st:List Nd}{h w:Nat}
theorem Bfs.stp(D:∀p∈ps,p.1<h/\p.2<w){s:Bs}(b:Bfs ps x st h w s){z:Nd}{i:Nat}(hz:s.1[i]? =Ja z){e:Nd×Pl}(O:e∈nbrs ps z):Bfs ps x st h w (stp x z s e):=by
 unfold Vl.Internal.stp;by_cases q:e.1∉s.1/\okE x z e.2=Jc
 ·rw[Ua q];refine⟨?_,λy W=> ?_,λy W=>Qk _<|b.has y W,λj y H=> ?_⟩
  ·exact Qu.mpr ⟨b.nd,Qx.mpr ⟨λq=>(bQ q),.nil⟩,λa T c Z r=>q.1<|by rw[Qj.mp Z] at r;exact r▸T⟩
  ·rcases Qr.mp W with W|W
   ·exact b.val y W
   ·rw[Qj.mp W];exact(rp D O).2
  ·have l:i<s.1.length:=(QF.mp hz).1
   rcases Nat.lt_or_ge j s.1.length with M|M
   ·rw[Wm M] at H;have W:y≠e.1:=λr=>q.1 (r▸QB H)
    rcases b.par j y H with⟨N,Y⟩|⟨A,p,G,N,Y,J,C,B⟩
    ·exact .inl ⟨(ck s.2 _ W).trans N,Y⟩
    ·exact .inr ⟨A,p,G,(ck s.2 _ W).trans N,Y,by rw[Wm (by exact Nat.lt_trans Y M)];exact J,C,B⟩
   ·rw[WM M] at H;have:j-s.1.length=0:=by
     rcases Nat.eq_zero_or_pos (j-s.1.length) with r|r
     ·exact r
     ·rw[KW (show [e.1].length<=_ from r)] at H;exact ns H
    rw[this] at H;obtain rfl:=sj H;exact .inr ⟨z,e.2,i,bV _ _ _,by exact zll l M,by rw[Wm l];exact hz,O,q.2⟩
 ·rw[Y9 q];exact b
theorem Bfs.fold(D:∀p∈ps,p.1<h/\p.2<w){z:Nd}{i:Nat}:∀ (es:List (Nd×Pl)) {s:Bs},Bfs ps x st h w s->s.1[i]? =Ja z->(∀e∈es,e∈nbrs ps z)->Bfs ps x st h w (es.foldl (Vl.Internal.stp x z) s):=λes=>by
 induction es with
 |nil=>exact λb o0 o0=>b
 |cons e es W=>exact λ{s} b v O=>W (b.stp D v (O e (.head _))) (qX (rk x z s e) v) λf j=>O f<|.tail _ j
theorem qf(D:∀p∈ps,p.1<h/\p.2<w)(X:h+w<=16):∀ (k i:Nat) (s:Bs),Bfs ps x st h w s->Clo ps x i s->i<=s.1.length->16<i+k->Bfs ps x st h w (bfs ps x k i s)/\∀z∈(bfs ps x k i s).1,∀e∈nbrs ps z,okE x z e.2=Jc->e.1∈(bfs ps x k i s).1
 |0=>λi s b o0 t g=>by have:=b.len;exact absurd g<|Kc.mpr (zle t<|zle this X)
 |k+1=>λi s b c t g=>by
  rw[um]
  induction e:s.1[i]? with
  |none=>
   have:s.1.length<=i:=WR.mp e;show Bfs ps x st h w s/\∀z∈s.1,_;refine⟨b,λz v f W o=> ?_⟩;obtain⟨j,H⟩:=Yr v;exact c j z (zll (QF.mp H).1 this) H f W o
  |some z=>
   have r:=i3 x z (nbrs ps z) s;have l:i<s.1.length:=(QF.mp e).1;refine qf D X k (i+1) _ (Bfs.fold D _ b e λf W=>W) (λj y H S f W o=> ?_) (zle l r.length_le)<|Nat.lt_of_lt_of_eq g (QI i 1 k).symm;have M:j<s.1.length:=by exact zl (zs H) l
   have R:s.1[j]? =Ja y:=by
    have J:=qX r<|Qi M;rw[Qi M,<-J];exact S
   by_cases q:j=i
   ·subst q;obtain rfl:=sj<|e.symm.trans R;exact sP x z _ _ f W o
   ·exact r.subset<|c j y (by exact Nat.lt_of_le_of_ne (zs H) q) R f W o
end
theorem fC{tst:DRho->(Bool->Prop)->Prop}{body:DRho->bX->Prop}(I:Nat->DRho->Prop)
  (h:∀ (k:Nat) (L:DRho),I k L->∀K:DRho->Prop,(∀j P,j<k->I j P->K P)->tst L λb=>cond b (body L<|donFl K Q)<|Q .next L):∀ (n k:Nat) (L:DRho),k<n->I k L->dwhGo tst body Q n L
 |0=>λk o0 q o0=>absurd q<|Wd _
 |n+1=>λk L q i=>h k L i (λJ=>dwhGo tst body Q n J) λj P H w=>fC I h n j P (QJ H<|We q) w
def dV:Option (Nd×Pl)->D
 |none=> .none
 |some e=> .tup [dN e.1,dP e.2]
abbrev dCm(s:Bs):D:=md Nd.key (λy=>dV (s.2 y)) s.1
abbrev dCt(ps:List Pl)(x:Pl->Int):D:=md pkey (λp=> .int (x p)) ps
noncomputable def Nd.wd:Nd->String
 | .r _=>"row"
 | .c _=>"column"
noncomputable def Nd.no:Nd->Nat
 | .r i=>i
 | .c i=>i
theorem qR(z:Nd):dsub (dN z) (.int 0)=Ja (.str z.wd):=by rcases z with⟨⟩<;>rfl
theorem qM(z:Nd):dsub (dN z) (.int 1)=Ja (.int z.no):=by rcases z with⟨⟩<;>rfl
theorem Ad(z:Nd):dN z= .tup [.str z.wd,.int z.no]:=by rcases z with⟨⟩<;>rfl
theorem mO:D.okd 40 (.str "row")=Jc:=by decide+kernel
theorem mK:D.okd 40 (.str "column")=Jc:=by decide+kernel
theorem yt:D.eqv (.str "row") (.str "row")=Jc:=c5 _
theorem yT:D.eqv (.str "column") (.str "column")=Jc:=c5 _
theorem zA:D.eqv (.str "row") (.str "column")=Jd:=by decide+kernel
theorem zc:D.eqv (.str "column") (.str "row")=Jd:=by decide+kernel
theorem qe(z:Nd):D.okd 40 (.str z.wd)=Jc:=by
 induction z with
 |r i=>exact mO
 |c i=>exact mK
theorem qL(z:Nd):D.eqv (.str z.wd) (.str "row")=z.isR:=by
 induction z with
 |r i=>exact yt
 |c i=>exact zc
theorem qD(z:Nd):D.eqv (.str z.wd) (.str "column")= !z.isR:=by
 induction z with
 |r i=>exact zA
 |c i=>exact yT
theorem pR(p:Pl):D.okd 40 (dP p)=Jc:=rfl
theorem k4{L:Type}[DecidableEq L]{xs:List L}{x:L}(h:x∉xs):withx xs x=xs++[x]:=Y9 h
theorem t7{s:Bs}{a:Nd}(h:a∉s.1)(v:Option (Nd×Pl)):md Nd.key (upd (λy=>dV (s.2 y)) a (dV v)) (withx s.1 a)=dCm (s.1++[a],upd s.2 a v):=by
 rw[k4 h,nX dV s.2 a v]
theorem fy{L:Type}{l:List L}{j:Nat}{a:L}(h:l[j]? =Ja a):l.take (j+1)=l.take j++[a]:=by rw[List.take_add_one,h];rfl
theorem mV{L:Type}{l:List L}(nd:l.Nodup){j:Nat}{a:L}(h:l[j]? =Ja a):a∉l.take j:=λq=>by
 have:=nd.sublist<|Ye (j+1) l;rw[fy h] at this;exact(Qu.mp this).2.2 a q a (.head _) rfl
theorem yz{x:Pl->Int}{s:Bs}{z:Nd}(h:s.1[i]? =Ja z):bfs ps x (k+1) i s=bfs ps x k (i+1) ((nbrs ps z).foldl (stp x z) s):=by
 rw[um,h];rfl
theorem xj{x:Pl->Int}{s:Bs}(h:s.1.length<=i):bfs ps x k i s=s:=by
 induction k using Nat.casesOn with
 |zero=>rfl
 |succ k=>
  rw[um,KW h];rfl
theorem gy{L u:Type}(f:u->L->u)(s:u){l:List L}{j:Nat}{a:L}(h:l[j]? =Ja a):(l.take (j+1)).foldl f s=f ((l.take j).foldl f s) a:=by
 rw[fy h,List.foldl_append];rfl
def bfsF(ps:List Pl)(x:Pl->Int)(st:List Nd):Bs:=bfs ps x 17 0 (st,λo0=>Jb)
theorem Bfs.start{x:Pl->Int}{st:List Nd}(nd:st.Nodup)(hv:∀y∈st,y∈allN h w):Bfs ps x st h w (st,λo0=>Jb):=
 ⟨nd,hv,λy W=>W,λj y H=> .inl ⟨rfl,QB H⟩⟩
noncomputable def bn(ban:Option Pl)(ps:List Pl):List Pl:=ps.filter λq=> !decide (ban=Ja q)
def dBn:Option Pl->D
 |none=> .none
 |some p=>dP p
theorem xm(ps:List Pl):bn Jb ps=ps:=WP.mpr λq o0=>by rw[Y7 (λz=>ns z)];rfl
theorem bn_mem:q∈bn ban ps↔q∈ps/\ban≠Ja q:=by
 rw[bn,Qh];exact and_congr_right λo0=>⟨λh z=>by rw[Y6 z] at h;exact ft h,λh=>by rw[Y7 h];rfl⟩
theorem wt(ban:Option Pl):D.okd 40 (dBn ban)=Jc:=by rcases ban with⟨⟩<;>rfl
theorem gJ(p q:Pl):D.eqv (dP p) (dP q)=decide (p=q):=by
 show D.eqv (.tup [_,_]) (.tup [_,_])=_;rw[AD,bY,bY,Kn,QV,Uc,Uc,Uc];exact⟨λh=>Prod.ext (KP.mp h.1)<|KP.mp h.2,λh=>h▸⟨rfl,rfl⟩⟩
theorem vZ(p:Pl)(ban:Option Pl):D.eqv (dP p) (dBn ban)=decide (ban=Ja p):=by
 induction ban with
 |none=>rw[Y7 (λz=>ns z)];rfl
 |some q=>exact(gJ p q).trans (decide_eq_decide.mpr ⟨λh=>h▸rfl,λh=>(sj h).symm⟩)
theorem mH(ban:Option Pl)(ps:List Pl)(z:Nd):nbrs (bn ban ps) z=(nbrs ps z).filter λe=> !decide (ban=Ja e.2):=by
 induction z with
 |r i=>
  show Ky _ (Wg _<|Wg _ _)=Wg _ (Ky _<|Wg _ _);rw[List.filter_map,Wu,Wu];refine Ud _ (Yg λq o0=> ?_);exact Bool.and_comm _ _
 |c i=>
  show Ky _ (Wg _<|Wg _ _)=Wg _ (Ky _<|Wg _ _);rw[List.filter_map,Wu,Wu];refine Ud _ (Yg λq o0=> ?_);exact Bool.and_comm _ _
def stpB(ban:Option Pl)(x:Pl->Int)(z:Nd)(s:Bs)(e:Nd×Pl):Bs:=if !decide (ban=Ja e.2) then stp x z s e else s
theorem qH(ban:Option Pl)(x:Pl->Int)(z:Nd)(s:Bs)(l:List (Nd×Pl)):l.foldl (stpB ban x z) s=(l.filter λe=> !decide (ban=Ja e.2)).foldl (stp x z) s:=List.foldl_filter.symm
noncomputable def whB(f:Fn):List S:=match (f.b[4]? :Option S) with
 |some (.while_ _ [_,_,.for_ _ _ _ b])=>b
 |_=>[]
section
variable{C:Cx}{mg mb:Jq->Option Jf}{n:Nat}{Q:D->Bool->Prop}{X:DX}
theorem zY{A W:DCl}{ban:Option Pl}{ps:List Pl}{x:Pl->Int}{st:List Nd}{h w:Nat}(I:∀p∈ps,p.1<h/\p.2<w){s:Bs}{z:Nd}{i:Nat}(b:Bfs (bn ban ps) x st h w s)(hz:s.1[i]? =Ja z)(m:h+w<=16){Z V c E:Bool}{Y M u2 u3:Option (D×Bool)}{d1 d:D}{Kp:bX}
  (hK:∀u v,Kp .next (Nb "near" Z d1<|Nb "counts" V (dCt ps x)<|Nb "starts" c d<|Nb "banned" E (dBn ban)<|Nb "came" Jc (dCm<|(nbrs (bn ban ps) z).foldl (stp x z) s)<|Nb "waiting" Jc (.list<|((nbrs (bn ban ps) z).foldl (stp x z) s).1.map dN)<|No "start" M<|No "at" Y<|Nb "here" Jc (dN z)<|No "other" u<|No "place" v<|[])):
  gV (.tup ["other","place"]) (λL K=>dwss G1 A W (whB fz) L K λo0 o0 o0=>False) Kp ((nbrs ps z).map dE)
   (Nb "near" Z d1<|Nb "counts" V (dCt ps x)<|Nb "starts" c d<|Nb "banned" E (dBn ban)<|Nb "came" Jc (dCm s)<|Nb "waiting" Jc (.list<|s.1.map dN)<|No "start" M<|No "at" Y<|Nb "here" Jc (dN z)<|No "other" u2<|No "place" u3<|[]):=by
 have tz:∀y t,tg0 (dN y) t=Jb:=λy t=>by unfold tg0;rw[eJ];rfl
 have tp:∀y t,tg0 (dP y) t=Jb:=λy t=>rfl;refine cK dE (λj L=>∃u v,L=(Nb "near" Z d1<|Nb "counts" V (dCt ps x)<|Nb "starts" c d<|Nb "banned" E (dBn ban)<|Nb "came" Jc (dCm<|((nbrs ps z).take j).foldl (stpB ban x z) s)<|Nb "waiting" Jc (.list<|(((nbrs ps z).take j).foldl (stpB ban x z) s).1.map dN)<|No "start" M<|No "at" Y<|Nb "here" Jc (dN z)<|No "other" u<|No "place" v<|[])) _ _ ⟨_,_,rfl⟩ ?_ ?_
 ·rintro j f L F ⟨u,v,rfl⟩ K k;have hm:=QB F;have e:Bfs (bn ban ps) x st h w (((nbrs ps z).take j).foldl (stpB ban x z) s):=by
   rw[qH];refine b.fold (λp B=>I p (bn_mem.mp B).1) _ hz λg O=> ?_;rw[mH];exact Qh.mpr ⟨Ys (Qh.mp O).1,(Qh.mp O).2⟩
  have l:=e.len;rw[gy (stpB ban x z) s F] at k;generalize ((nbrs ps z).take j).foldl (stpB ban x z) s=t at e k l ⊢;obtain⟨o,p⟩:=f;have H:=(rp I hm).1;dsimp only[dE,whB,fz];dsimp only[gE,bz,bA,fJ,aL,Qa,aM,aB,aA,bJ];refine cg ?_;dsimp only[cq,cA,bt,aA,aX,aN,aP,aD,aF,Qa,aJ,aB,aK,c4,deq,b9,fD,eF];rw[tt,f9,pe,nU du,eJ,dg];dsimp only[cp];refine rP (λN=> ?_) λN=> ?_
  ·refine⟨⟨pR p,wt ban⟩,?_⟩;rw[vZ];refine rP (λR=> ?_) λR=> ?_
   rotate_left
   ·rw[show stpB ban x z t (o,p)=t from Y9 (by rw[Y6 R];exact QC)] at k;exact k _ ⟨_,_,rfl⟩
   rw[show stpB ban x z t (o,p)=stp x z t (o,p) from Ua (by rw[Y7 R];rfl)] at k;refine aY (qR _) ?_;refine gK ?_;refine⟨⟨qe z,mO⟩,?_⟩;rw[qL];have go:okE x z p=Jc->∀ (r:List S) (X:DSX) (J:bX),(∀P,(∃u v,P=(Nb "near" Z d1<|Nb "counts" V (dCt ps x)<|Nb "starts" c d<|Nb "banned" E (dBn ban)<|Nb "came" Jc (dCm<|stp x z t (o,p))<|Nb "waiting" Jc (.list<|(stp x z t (o,p)).1.map dN)<|No "start" M<|No "at" Y<|Nb "here" Jc (dN z)<|No "other" u<|No "place" v<|[]))->J .next P)->
     dwss G1 A W [.setIdx (.loc "came") (.loc "other") (.tup [.loc "here",.loc "place"]),.expr (.meth (.loc "waiting") .append [.loc "other"])] (Nb "near" Z d1<|Nb "counts" V (dCt ps x)<|Nb "starts" c d<|Nb "banned" E (dBn ban)<|Nb "came" Jc (dCm t)<|Nb "waiting" Jc (.list<|t.1.map dN)<|No "start" M<|No "at" Y<|Nb "here" Jc (dN z)<|Nb "other" Jc (dN o)<|Nb "place" Jc (dP p)<|[]) J X:=λho r X J U=>by
    have hs:stp x z t (o,p)=(t.1++[o],upd t.2 o<|Ja (z,p)):=Ua ⟨N,ho⟩;rw[hs] at U;refine jE du (a:=o) (g:=λy=>dV<|t.2 y) (xs:=t.1) (dk:=dN o) (dv:=dV<|Ja (z,p)) rfl e.nd (c6<|by exact zb1 (zle l m) rfl) (f9 _) (λQ q=> ?_) (λQ X q=> ?_) ?_
    ·dsimp only[dU,cX,aU,dX,aV,cf,aL,Qa,aM,aA,aB,aF,aJ,aK];rw[eJ,dg]
     (dsimp only[aA];refine⟨by decide,?_⟩)
     exact q
    ·dsimp only[aD,aF,Qa,aJ,aB,aA,aK];rw[tz];exact q
    ·dsimp only[aL,Qa,aM,aB,aA];refine iH ?_
     (dsimp only[aF,Qa,aJ,aB,aA,aK,dp,cf,aL,aM];refine⟨trivial,?_⟩)
     rw[eJ]
     (dsimp only[aA];refine⟨rfl,?_⟩)
     refine⟨by rw[Qd];exact c6<|by exact zb1 (zle l m) rfl,U _ ⟨Ja (dN o,Jc),Ja (dP p,Jc),?_⟩⟩;rw[t7 N,QD];rfl
   refine i5 (λT=> ?_) λT=> ?_
   ·exact go (by unfold okE;rw[T];rfl) [] _ _ λP q=>k P q
   ·refine aY (cU b7 (cW p) H) ?_;dsimp only[j4];refine cM (λhx=> ?_) λhx=> ?_
    ·exact go (by unfold okE;rw[T];exact Y6 hx) [] _ _ λP q=>k P q
    ·rw[show stp x z t (o,p)=t from Y9 λq=>by
      have G:(z.isR||decide (x p>0))=Jc:=q.2;rw[T,Y7 hx] at G;exact ft G] at k
     exact k _ ⟨_,_,rfl⟩
  ·rw[show stpB ban x z t (o,p)=t by rw[stpB,show stp x z t (o,p)=t from Y9 λq=>q.1 N,ite_self]] at k;exact k _ ⟨_,_,rfl⟩
 ·rintro L ⟨u,v,rfl⟩;rw[Kj,qH,<-mH];exact hK u v
theorem jT(e:Env1 C G1 mg mb){ban:Option Pl}{ps:List Pl}{x:Pl->Int}{ns st:List Nd}{h w:Nat}(N:NearX ps ns)(hp:∀p∈ps,p.1<h/\p.2<w)(O:h<=8)(U:w<=8)(nd:st.Nodup)(hv:∀y∈st,y∈allN h w){M V b3 Y:Bool}(kq:Q (dCm (bfsF (bn ban ps) x st)) Jc):
  aR (aO C<|n+1) "reached" [(md Nd.key (nearG ps) ns,M),(dCt ps x,V),(.list<|st.map dN,b3),(dBn ban,Y)] Q X:=by
 refine e.fn fz (br 1 rfl) rfl λcl cu PQ PX gg=> ?_;dsimp only[fz];dsimp only[aZ,cb,bv];refine bl ?_
 (dsimp only[iy,bB,aG,aL,Qa,aM,aB,aA];refine⟨rfl,?_⟩)
 refine bl ?_
 (dsimp only[bH,fsts,dnew,aE,aI,aV,aT,bB,aG,aL,Qa,aM,aB,aA];refine⟨by decide,?_⟩)
 refine dz rfl ?_;dsimp only[fsts,aC,aH,aW,aE,aI,aT,ct,aD,aF,Qa,aJ,aB,aA,aK,bo,bC,fR,fQ,fO,fK,dW,bE,fP,bI,gn,cJ,fN,fM,cw];have J:Bfs (bn ban ps) x st h w (st,λo0=>Jb):= .start nd hv;refine cK dN (λi L=>∃v c,L=(Nb "near" M (md Nd.key (nearG ps) ns)<|Nb "counts" V (dCt ps x)<|Nb "starts" c (.list<|st.map dN)<|Nb "banned" Y (dBn ban)<|Nb "came" Jc (dCm (st.take i,λo0=>Jb))<|Nb "waiting" Jc (.list<|(st.take i).map dN)<|No "start" v<|No "at" Jb<|No "here" Jb<|No "other" Jb<|No "place" Jb<|[])) _ _ ⟨_,_,rfl⟩ ?_ ?_
 ·rintro j y L I ⟨v,c,rfl⟩ K m;dsimp only[b8,aL,Qa,aM,aB,aA,bJ];have l:(st.take j).length<=16:=by
   rw[Yq];have:st.length<=h+w:=J.len;exact zle (WK _ _)<|zle this (Ki O U)
  have o:=mV nd I;refine jE du (a:=y) (g:=λy=>dV<|(λo0=>Jb:Par) y) (xs:=st.take j) (dk:=dN y) (dv:= .none) rfl (nd.sublist<|Ye _ _) (c6<|by exact zb1 l rfl) (f9 _) (λQ q=> ?_) (λQ X q=> ?_) ?_
  ·exact⟨rfl,q⟩
  ·dsimp only[aD,aF,Qa,aJ,aB,aA,aK];rw[show tg0 (dN y) (Ja ["start"])=Jb by unfold tg0;rw[eJ];rfl];exact q
  ·dsimp only[aL,Qa,aM,aB,aA];refine iH ?_
   (dsimp only[aF,Qa,aJ,aB,aA,aK,dp,cf,aL,aM];refine⟨trivial,?_⟩)
   rw[eJ]
   (dsimp only[aA];refine⟨rfl,?_⟩)
   refine⟨by rw[Qd];exact c6<|by exact zb1 l rfl,m _ ⟨Ja (dN y,Jc),c,?_⟩⟩;have S:=t7 (s:=(st.take j,λo0=>Jb)) (a:=y) o Jb;rw[show upd ((st.take j,(λo0=>Jb:Par)):Bs).2 y Jb=λo0=>Jb from by funext z;unfold upd;split<;>rfl] at S;rw[fy I,QD];exact Ud (λd=>(Nb "near" M (md Nd.key (nearG ps) ns)<|Nb "counts" V (dCt ps x)<|Nb "starts" c (D.list<|st.map dN)<|Nb "banned" Y (dBn ban)<|Nb "came" Jc d<|Nb "waiting" Jc (D.list<|(st.take j).map dN++[dN y])<|Nb "start" Jc (dN y)<|No "at" Jb<|No "here" Jb<|No "other" Jb<|No "place" Jb<|[])) S
 rintro L ⟨G,c,rfl⟩;rw[Kj];refine gZ ?_;refine bl ?_;dsimp only[aN,bB,aG,aL,Qa,aM,aB,aA];refine ig rfl 18 ?_;refine fC (λk L=>X6 λ(i:Nat) (s:Bs) (W:Bool) (R A P:Option (D×Bool))=>A5 (k+i=17) (i<=s.1.length) (Bfs (bn ban ps) x st h w s) (bfs (bn ban ps) x k i s=bfsF (bn ban ps) x st)<|L=(Nb "near" W (md Nd.key (nearG ps) ns)<|Nb "counts" V (dCt ps x)<|Nb "starts" c (.list<|st.map dN)<|Nb "banned" Y (dBn ban)<|Nb "came" Jc (dCm s)<|Nb "waiting" Jc (.list<|s.1.map dN)<|No "start" G<|Nb "at" Jc (.int i)<|No "here" R<|No "other" A<|No "place" P<|[])) ?_ 18 17 _ (by decide) ⟨0,(st,λo0=>Jb),M,Jb,Jb,Jb,rfl,QT _,J,rfl,rfl⟩;rintro k L ⟨i,s,W,R,A,P,r,hi,b,F,rfl⟩ K m;have l:=b.len
 (dsimp only[aX,bt,bj,bS,aC,aE,bW,aD,aF,Qa,aJ,aB,aA,aK,cE,cB,qi];refine⟨rfl,?_⟩)
 rw[Qd];refine cM (λE=> ?_) λE=> ?_
 rotate_left
 ·have:bfs (bn ban ps) x k i s=s:=xj (by exact Kc.mp λq=>E<|Kf.mpr q);rw[this] at F;refine gZ ?_;refine cZ ?_
  (dsimp only[cf,aL,Qa,aM,aB,aA,aF,aJ,aK,dW];refine⟨rfl,?_⟩)
  rw[F];exact gg.qr kq
 obtain⟨z,T⟩:∃z,s.1[i]? =Ja z:=⟨_,Qi<|by exact Kf.mp E⟩
 obtain⟨k,rfl⟩:∃k',k=k'+1:=⟨k-1,by exact zk1 O U r l E⟩
 rw[yz T] at F;have bF:Bfs (bn ban ps) x st h w ((nbrs (bn ban ps) z).foldl (stp x z) s):=b.fold (λp H=>hp p (bn_mem.mp H).1) _ T λf hf=>hf;have pF:=(i3 x z (nbrs (bn ban ps) z) s).length_le;have tz:∀y t,tg0 (dN y) t=Jb:=λy t=>by unfold tg0;rw[eJ];rfl
 refine bl ?_;dsimp only[aP,aD,aF,Qa,aJ,aB,aA,aK,bo];refine aY (iW (v:=dN z)<|by rw[Qs,T];rfl) ?_;rw[tz];dsimp only[bB,aG,aL,Qa,aM,aB,aA];refine bl ?_;dsimp only[bp,aN,aD,aF,Qa,aJ,aB,aA,aK,bw,dD,bB,aG,aL,aM];refine dz rfl ?_;dsimp only[fsts,aC,aH,aW,aE,aI,aT,ct,wb,aD,aF,Qa,aJ,aB,aA,aK,dy,vS];rw[f9,pe];have fin:∀u v Z,K (Nb "near" Z (md Nd.key (nearG ps) ns)<|Nb "counts" V (dCt ps x)<|Nb "starts" c (.list<|st.map dN)<|Nb "banned" Y (dBn ban)<|Nb "came" Jc (dCm<|(nbrs (bn ban ps) z).foldl (stp x z) s)<|Nb "waiting" Jc (.list<|((nbrs (bn ban ps) z).foldl (stp x z) s).1.map dN)<|No "start" G<|Nb "at" Jc (.int<|(i:Int)+1)<|Nb "here" Jc (dN z)<|No "other" u<|No "place" v<|[]):=λu v Z=>
  m k _ (by exact QN _) ⟨i+1,_,Z,_,_,_,by exact(QI _ _ _).symm.trans r,by exact zle (Kf.mp E) pF,bF,F,rfl⟩
 by_cases B:z∈ns
 ·rw[mR du B];dsimp only[Bl];exact zY hp b T (by exact Ki O U) λu v=>fin u v _
 ·rw[oW du B];dsimp only[Bb,bu,bB,cw];have:=fin A P W;rw[mH,N.out z B] at this;exact this
end
structure Way where
 R:List Pl
 L:List Pl
 E:Nd
noncomputable def wayO(w:Way)(k:Nd->Pl->Way):Option (Nd×Pl)->Way
 |none=>w
 |some e=>k e.1 e.2
noncomputable def wayF(s:Bs):Nat->Nd->Way
 |0,y=>⟨[],[],y⟩
 |k+1,y=>wayO ⟨[],[],y⟩ (λz p=>bif y.isR then⟨(wayF s k z).R,p::(wayF s k z).L,(wayF s k z).E⟩ else⟨p::(wayF s k z).R,(wayF s k z).L,(wayF s k z).E⟩) (s.2 y)
theorem kY{s:Bs}(h:s.2 y=Jb):wayF s k y=⟨[],[],y⟩:=by
 induction k using Nat.casesOn with
 |zero=>rfl
 |succ k=>show wayO _ _ (s.2 y)=_;rw[h];rfl
theorem ly{s:Bs}{y z:Nd}(h:s.2 y=Ja (z,p)):wayF s (k+1) y=bif y.isR then⟨(wayF s k z).R,p::(wayF s k z).L,(wayF s k z).E⟩ else⟨p::(wayF s k z).R,(wayF s k z).L,(wayF s k z).E⟩:=by
 show wayO _ _ (s.2 y)=_;rw[h];rfl
noncomputable def ind(p:Prop)[Decidable p]:Int:=if p then 1 else 0
theorem fA{p:Prop}[Decidable p](h:p):ind p=1:=Ua h
theorem dA{p:Prop}[Decidable p](h:¬p):ind p=0:=Y9 h
noncomputable abbrev cR(l:List Pl)(i:Nat):Int:=(l.countP λp=>decide (p.1=i):Nat)
noncomputable abbrev cC(l:List Pl)(i:Nat):Int:=(l.countP λp=>decide (p.2=i):Nat)
theorem nw(p:Pl)(l:List Pl)(i:Nat):cR (p::l) i=cR l i+ind (p.1=i):=by
 unfold cR ind;rw[List.countP_cons];by_cases h:p.1=i
 ·rw[Ua h,Ua (Y6 h)];exact rfl
 ·rw[Y9 h,Y9 (by simpa using h)];exact rfl
theorem nG(p:Pl)(l:List Pl)(i:Nat):cC (p::l) i=cC l i+ind (p.2=i):=by
 unfold cC ind;rw[List.countP_cons];by_cases h:p.2=i
 ·rw[Ua h,Ua (Y6 h)];exact rfl
 ·rw[Y9 h,Y9 (by simpa using h)];exact rfl
structure WayOK(ps:List Pl)(x:Pl->Int)(st:List Nd)(s:Bs)(j:Nat)(y:Nd)(W:Way):Prop where
 e:W.E∈st
 r:∀p∈W.R,p∈ps
 l:∀p∈W.L,p∈ps/\0<x p
 nd:W.L.Nodup
 at_:∀p∈W.L,∃i,i<=j/\s.1[i]? =Ja (.r p.1)
 row:∀i,cR W.R i-cR W.L i=ind (W.E= .r i)-ind (y= .r i)
 col:∀i,cC W.R i-cC W.L i=ind (y= .c i)-ind (W.E= .c i)
theorem wU{y z:Nd}{p:Pl}(h:(y,p)∈nbrs ps z):p∈ps/\((y= .c p.2/\z= .r p.1)\/(y= .r p.1/\z= .c p.2)):=by
 induction z with
 |r i=>
  obtain⟨q,N,Y⟩:=Ql.mp h;cases Y;obtain⟨J,w⟩:=Qh.mp N;exact⟨J,.inl ⟨rfl,by rw[Y8 w]⟩⟩
 |c i=>
  obtain⟨q,N,Y⟩:=Ql.mp h;cases Y;obtain⟨J,w⟩:=Qh.mp N;exact⟨J,.inr ⟨rfl,by rw[Y8 w]⟩⟩
theorem pj{x:Pl->Int}{s:Bs}(b:Bfs ps x st h w s):∀ (k j:Nat) (y:Nd),s.1[j]? =Ja y->j<k->WayOK ps x st s j y (wayF s k y)
 |0=>λj y o0 M=>absurd M<|Wd _
 |k+1=>λj y Q M=>by
  rcases b.par j y Q with⟨N,Y⟩|⟨z,p,i,N,Y,J,O,B⟩
  ·rw[kY N];exact⟨Y,λp D=>(bQ D),λp D=>(bQ D),.nil,λp D=>(bQ D),λi=>(Yy _).symm,λi=>(Yy _).symm⟩
  ·have W:=pj b k i z J (by exact zll Y<|zs M);rw[ly N];generalize wayF s k z=V at W ⊢;obtain⟨D,⟨rfl,rfl⟩|⟨rfl,rfl⟩⟩:=wU O
   ·show WayOK ps x st s j (.c p.2) ⟨p::V.R,V.L,V.E⟩;refine⟨W.e,λq o=> ?_,W.l,W.nd,λq o=> ?_,λm=> ?_,λm=> ?_⟩
    ·cases o with
     |head=>exact D
     |tail _ o=>exact W.r q o
    ·obtain⟨G,C,S⟩:=W.at_ q o;exact⟨G,by exact zle C<|Kv Y,S⟩
    ·have:=W.row m;dsimp only;rw[nw,dA (p:=Nd.c p.2= .r m) (λq=>nomatch q)];by_cases q:p.1=m
     ·subst q;rw[fA (p:=Nd.r p.1= .r p.1) rfl] at this;rw[fA (p:=p.1=p.1) rfl];exact zw1 this
     ·rw[dA (p:=Nd.r p.1= .r m) (λz=>q<|Nd.r.inj z)] at this;rw[dA q];exact zw2 this
    ·have:=W.col m;dsimp only;rw[nG];rw[dA (p:=Nd.r p.1= .c m) (λq=>nomatch q)] at this;by_cases q:p.2=m
     ·subst q;rw[fA (p:=Nd.c p.2= .c p.2) rfl,fA (p:=p.2=p.2) rfl];exact zw5 this
     ·rw[dA (p:=Nd.c p.2= .c m) (λz=>q<|Nd.c.inj z),dA q];exact zw2 this
   ·show WayOK ps x st s j (.r p.1) ⟨V.R,p::V.L,V.E⟩;have hx:0<x p:=by
     have B:(Nd.isR (.c p.2)||decide (x p>0))=Jc:=B;exact Y8 B
    refine⟨W.e,W.r,λq o=> ?_,Qx.mpr ⟨λq=> ?_,W.nd⟩,λq o=> ?_,λm=> ?_,λm=> ?_⟩
    ·cases o with
     |head=>exact⟨D,hx⟩
     |tail _ o=>exact W.l q o
    ·obtain⟨G,C,S⟩:=W.at_ p q;have:=(List.getElem?_inj (QF.mp Q).1 b.nd).mp (Q.trans S.symm);exact KJ _<|zll Y (zle (QU this) C)
    ·cases o with
     |head=>exact⟨j,Qy _,Q⟩
     |tail _ o=>obtain⟨G,C,S⟩:=W.at_ q o;exact⟨G,by exact zle C<|Kv Y,S⟩
    ·have:=W.row m;dsimp only;rw[nw];rw[dA (p:=Nd.c p.2= .r m) (λq=>nomatch q)] at this;by_cases q:p.1=m
     ·subst q;rw[fA (p:=Nd.r p.1= .r p.1) rfl,fA (p:=p.1=p.1) rfl];exact zw3 this
     ·rw[dA (p:=Nd.r p.1= .r m) (λz=>q<|Nd.r.inj z),dA q];exact zw4 this
    ·have:=W.col m;dsimp only;rw[nG,dA (p:=Nd.r p.1= .c m) (λq=>nomatch q)];by_cases q:p.2=m
     ·subst q;rw[fA (p:=Nd.c p.2= .c p.2) rfl] at this;rw[fA (p:=p.2=p.2) rfl];exact zw7 this
     ·rw[dA (p:=Nd.c p.2= .c m) (λz=>q<|Nd.c.inj z)] at this;rw[dA q];exact zw4 this
def incs(δ:Int)(R:List Pl)(x:Pl->Int):Pl->Int:=R.foldl (λx p=>upd x p (x p+δ)) x
noncomputable def sumOn(f:Pl->Bool)(ps:List Pl)(x:Pl->Int):Int:=((ps.filter f).map x).sum
theorem nI{f:Pl->Bool}{x y:Pl->Int}(h:∀p∈ps,x p=y p):sumOn f ps x=sumOn f ps y:=by
 unfold sumOn;rw[Qm λp D=>h p (Qh.mp D).1]
theorem cY(f:Pl->Bool)(q:Pl)(ps:List Pl)(x:Pl->Int):sumOn f (q::ps) x=(if f q then x q else 0)+sumOn f ps x:=by
 unfold sumOn;by_cases h:f q=Jc
 ·rw[QZ h,Ua h];rfl
 ·rw[Ka h,Y9 h,Wh]
theorem gC{f:Pl->Bool}{x:Pl->Int}:∀ {ps:List Pl},ps.Nodup->p∈ps->sumOn f ps (upd x p (x p+δ))=sumOn f ps x+if f p then δ else 0:=λ{ps}=>by
 induction ps with
 |nil=>exact λo0 h=>bQ h
 |cons q ps i=>
  intro nd D;obtain⟨Y,n⟩:=Qx.mp nd;rw[cY,cY];by_cases e:q=p
  ·subst e;rw[nI (y:=x) λr T=>ck _ _ λ(z:r=q)=>Y<|z▸T,bV];by_cases z:f q=Jc
   ·rw[Ua z,Ua z,Ua z];exact Int.add_right_comm _ _ _
   ·rw[Y9 z,Y9 z,Y9 z,Kg]
  ·rw[ck _ _ e,i n ((Qw.mp D).resolve_left λz=>e z.symm)];exact(KO _ _ _).symm
theorem fE{f:Pl->Bool}{ps:List Pl}(nd:ps.Nodup):∀ {R:List Pl} {x:Pl->Int},(∀p∈R,p∈ps)->sumOn f ps (incs δ R x)=sumOn f ps x+δ*(R.countP f:Nat)
 |[],x,_=>by show _=_+δ*0;rw[Int.mul_zero,Kg];rfl
 |p::R,x,h=>by
  show sumOn f ps (incs δ R<|upd x p (x p+δ))=_;rw[fE nd λq o=>h q<|.tail _ o,gC nd<|h p (.head _),List.countP_cons]
  split
  ·rw[Int.natCast_add,Int.mul_add];show _=_+(_+δ*1);exact zr10 _ _ _
  ·rw[Nat.add_zero];exact Ud (· +_)<|Kg _
theorem mL(h:0<=δ):∀ {R:List Pl} {x:Pl->Int} (q:Pl),x q<=incs δ R x q
 |[],x,q=>QX _
 |p::R,x,q=>by
  refine QL ?_<|mL h (R:=R) (x:=upd x p<|x p+δ) q;by_cases e:q=p
  ·subst e;rw[bV];exact Ks h
  ·rw[ck _ _ e];exact QX _
theorem eR:∀ {R:List Pl} {x:Pl->Int} {q:Pl},q∉R->incs δ R x q=x q
 |[],x,q,_=>rfl
 |p::R,x,q,h=>(eR (R:=R) (x:=upd x p (x p+δ)) λz=>h (.tail _ z)).trans (ck _ _ λ(z:q=p)=>h (z▸ .head _))
theorem ov:∀ {R:List Pl} {x:Pl->Int} {q:Pl},R.Nodup->q∈R->incs δ R x q=x q+δ:=λ{R}=>by
 induction R with
 |nil=>exact λo0 h=>bQ h
 |cons p R i=>
  intro x q nd h;obtain⟨Y,n⟩:=Qx.mp nd;show incs δ R (upd x p<|x p+δ) q=_;by_cases e:q=p
  ·subst e;rw[eR Y,bV]
  ·rw[i n ((Qw.mp h).resolve_left e),ck _ _ e]
theorem l5(δ:Int){R:List Pl}(x:Pl->Int)(h:R[j]? =Ja p):incs δ (R.take (j+1)) x=upd (incs δ (R.take j) x) p (incs δ (R.take j) x p+δ):=gy _ x h
theorem yX{xs:List Nd}(nd:xs.Nodup):((xs.filter λy=>y.isR==b).map Nd.no).Nodup:=by
 rw[QP,Wk];refine(QP.mp nd).filter _|>.imp_of_mem λ{u v} d hv h q=>h ?_
 have N:(u.isR==b)=Jc:=(Qh.mp d).2;have p:(v.isR==b)=Jc:=(Qh.mp hv).2;have J:=Ub N;have w:=Ub p
 rcases u with⟨⟩<;>rcases v with⟨⟩<;>first|(subst J;cases w;done)|(subst J;cases w;done)|(have:_=_:=q;cases this;rfl)
theorem vm(y:Nd)(t:Tag):tg0 (dN y) t=Jb:=by unfold tg0;rw[eJ];rfl
theorem xK(y:Pl)(t:Tag):tg0 (dP y) t=Jb:=rfl
theorem uh{L:Type}[DecidableEq L]{xs:List L}{x:L}(h:x∈xs):withx xs x=xs:=Ua h
theorem t9{ps:List Pl}{x:Pl->Int}{p:Pl}(h:p∈ps)(v:Int):md pkey (upd (λp=>D.int (x p)) p (.int v)) (withx ps p)=dCt ps (upd x p v):=by
 rw[uh h,nX D.int x p v]
noncomputable def wB(b:Bool):String:=bif b then "row" else "column"
noncomputable def mkN(b:Bool)(k:Nat):Nd:=bif b then .r k else .c k
theorem yC{y:Nd}(h:y.isR=b):mkN b y.no=y:=by subst h;rcases y with⟨⟩<;>rfl
theorem uH(b:Bool)(k:Nat):(mkN b k).no=k/\(mkN b k).isR=b:=by rcases b with⟨⟩<;>exact⟨rfl,rfl⟩
theorem yW(y:Nd)(b:Bool):D.eqv (.str y.wd) (.str (wB b))=(y.isR==b):=by
 induction b with
 |true=>exact(qL y).trans (by cases y.isR<;>rfl)
 |false=>exact(qD y).trans (by cases y.isR<;>rfl)
theorem zk(b:Bool):D.okd 40 (.str (wB b))=Jc:=by
 induction b with
 |true=>exact mO
 |false=>exact mK
def numF(b:Bool)(m:Nat)(xs:List Nd):List Nat:=(Qc m).filter λk=>decide<|mkN b k∈xs
theorem wJ{xs:List Nd}(nd:xs.Nodup)(L:∀y∈xs,y.isR=b->y.no<m){j:List Int}(D:j.Perm ((xs.filter λy=>y.isR==b).map λy=>(y.no:Int)))(s:j.Pairwise (· <= ·)):j=(numF b m xs).map λ(k:Nat)=>(k:Int):=by
 have Y:((xs.filter λy=>y.isR==b).map λy=>(y.no:Int)).Nodup:=by
  rw[show((xs.filter λy=>y.isR==b).map λy=>(y.no:Int))=((xs.filter λy=>y.isR==b).map Nd.no).map λ(k:Nat)=>(k:Int) from by rw[QE];rfl];rw[QP,Wk];exact(QP.mp<|yX nd).imp λh q=>h<|KP.mp q
 have r:((numF b m xs).map λ(k:Nat)=>(k:Int)).Pairwise (· < ·):=by
  rw[Wk];exact(List.pairwise_lt_range.filter _).imp λh=>Kf.mpr h
 have z:((numF b m xs).map λ(k:Nat)=>(k:Int)).Nodup:=QP.mpr (r.imp λh=>Int.ne_of_lt h);refine List.Perm.eq_of_pairwise (le:=(· <= ·)) (λa b o0 o0 N p=>WU N p) s (r.imp λh=>WY h)<|D.trans ((List.perm_ext_iff_of_nodup Y z).mpr λa=> ?_);rw[Ql,Ql]
 constructor
 ·rintro ⟨y,W,rfl⟩;obtain⟨N,p⟩:=Qh.mp W;have p:=Ub p;exact⟨y.no,Qh.mpr ⟨Qf.mpr<|L y N p,Y6<|by rw[yC p];exact N⟩,rfl⟩
 ·rintro ⟨k,M,rfl⟩;have N:=Y8 (Qh.mp M).2;exact⟨mkN b k,Qh.mpr ⟨N,by rw[(uH b k).2];exact beq_self_eq_true b⟩,by rw[(uH b k).1]⟩
theorem wm(xs:List Nd):(xs.map Nd.key).map keyDd=xs.map dN:=by
 rw[QE];refine Qm λy o0=> ?_
 rcases y with⟨⟩<;>rfl
theorem vL(y:Nd):y.key.length=2:=by rcases y with⟨⟩<;>rfl
section
variable{C:Cx}{mg mb:Jq->Option Jf}{n:Nat}{Q:D->Bool->Prop}{X:DX}
theorem lE(e:Env1 C G1 mg mb){s:Bs}(nd:s.1.Nodup)(h:s.1.length<=16)(L:∀y∈s.1,y.isR=b->y.no<m){d V:Bool}(k:Q (dNs (numF b m s.1)) Jc):aR (aO C (n+1)) "numbers_of" [(dCm s,d),(.str (wB b),V)] Q X:=by
 refine e.fn fh (br 4 rfl) rfl λl c P PX g=> ?_;dsimp only[fh];dsimp only[aZ,cb,bv];refine bL ?_
 (dsimp only[bj,rK,aG,aC,aE,bW];refine⟨rfl,?_⟩)
 refine cx rfl ?_
 (dsimp only[fsts,dp,aC,aH,aW,aE,aI,aT,ct,bj,eQ,bW,aD,aF,Qa,aB,aA,aK,dy,AF,bu,cw];refine⟨rfl,?_⟩)
 refine⟨⟨by rw[Qd];exact dB<|by exact zb2 h rfl,λq o=> ?_⟩,?_⟩
 ·obtain⟨y,o0,rfl⟩:=Ql.mp o;rw[vL];exact dB<|by decide
 rw[wm];refine ca dN (λy=> .int (y.no:Int)) (λy=>y.isR==b) (λy W=> ?_) ?_
 ·rw[Ad];dsimp only[bq,Bt,fJ,aM,Qa,aL,aB,aA,bJ];refine⟨λT Y=> ?_,λo0 K k=> ?_⟩
  ·dsimp only[tstD];dsimp only[aX,bt,c4,deq,aD,aJ,Qa,aF,aA,aB,aK];refine⟨⟨qe y,zk b⟩,?_⟩;rw[yW];exact Y
  ·dsimp only[elD];dsimp only[aD,aJ,Qa,aF,aB,aA,aK,bw];exact k
 ·refine gx (d3 _ _) ?_;refine⟨?_,λj N p=> ?_⟩
  ·rw[Qd];exact Km (KX _ _)<|by exact zb1 h rfl
  ·rw[wJ nd L N p,QE];exact g.qr k
theorem uw(e:Env1 C G1 mg mb){ps:List Pl}{x:Pl->Int}{st:List Nd}{h w:Nat}{s:Bs}(b:Bfs ps x st h w s)(m:h+w<=16){j:Nat}{y:Nd}(S:s.1[j]? =Ja y){M V:Bool}(H:Q (.tup [.list ((wayF s 17 y).R.map dP),.list ((wayF s 17 y).L.map dP),dN (wayF s 17 y).E]) Jc):
  aR (aO C<|n+1) "way_to" [(dCm s,M),(dN y,V)] Q X:=by
 refine e.fn jh (br 2 rfl) rfl λF U P PX g=> ?_;dsimp only[jh];dsimp only[aZ,cb,bv];refine bl ?_
 (dsimp only[bH,fsts,dnew,aE,aI,aV,aT,bB,aG,aL,Qa,aM,aB,aA];refine⟨by decide,?_⟩)
 refine bl ?_
 (dsimp only[bH,fsts,dnew,aE,aI,aV,aT,bB,aG,aL,Qa,aM,aB,aA];refine⟨by decide,?_⟩)
 refine bl ?_;dsimp only[aD,aF,Qa,aJ,aB,aA,aK];rw[vm];dsimp only[bB,aG,aL,Qa,aM,aB,aA];have G:=b.len;have c:j<s.1.length:=(QF.mp S).1;refine ig rfl 18 ?_;refine fC (λk q=>X6 λ(f:Nat) (z:Nd) (a L:List Pl) (u A:Option (D×Bool))=>A6 (k<f) (s.1[k]? =Ja z) (f<=17) (a.length+f<=17/\L.length+f<=17) (wayF s 17 y=⟨a++(wayF s f z).R,L++(wayF s f z).L,(wayF s f z).E⟩)<|q=(Nb "came" M (dCm s)<|Nb "goal" V (dN y)<|Nb "raised" Jc (.list<|a.map dP)<|Nb "lowered" Jc (.list<|L.map dP)<|Nb "here" Jc (dN z)<|No "ahead" u<|No "place" A<|[])) ?_ 18 j _ (by exact zll c<|zle G (zb2 m rfl)) ⟨17,y,[],[],Jb,Jb,by exact zll c<|zle G (zb2 m rfl),S,Qy _,⟨by simp,by simp⟩,rfl,rfl⟩;rintro k q ⟨f,z,a,L,u,A,W,R,E,⟨T,l⟩,d,rfl⟩ K v;have Z:=QB R;dsimp only[dq,bt,aP,aD,aF,Qa,aJ,aB,aA,aK];refine aY (cU du (f9 z) Z) ?_;skip
 rcases b.par k z R with⟨N,Y⟩|⟨o,p,i,N,Y,J,O,I⟩
 ·rw[N];rw[kY N,QH,QH] at d;rw[d] at H;refine⟨rfl,?_⟩;dsimp only[dV,D.isNone];dsimp only[cm,aB];refine gZ ?_;refine cZ ?_
  (dsimp only[dU,cX,aU,dX,aV,cf,aL,Qa,aM,aB,aA,aF,aJ,aK,bI];refine⟨rfl,rfl,?_⟩)
  rw[eJ]
  (dsimp only[aA];refine⟨by decide,?_⟩)
  exact g.qr H
 ·rw[N];refine⟨rfl,?_⟩;dsimp only[dV,D.isNone];dsimp only[j5,aA];obtain⟨f,rfl⟩:∃B,f=B+1:=⟨f-1,by exact zpr W⟩
  rw[ly N] at d;refine c7 rfl ?_;dsimp only[aP,aD,aF,Qa,aJ,aB,aA,aK,dy];rw[cU du (f9 z) Z,N];dsimp only[dV];dsimp only[cG,bR,tgl,bz,bA,fJ,bJ];rw[eJ,dg];dsimp only[cp,aA,bB,aG,aL,Qa,aM,aB];refine cg ?_;dsimp only[aX,bt,c4,deq,b9,aP,aN,aD,aF,Qa,aB,aA,aK];refine aY (qR _) ?_;refine gq ?_;refine⟨⟨qe z,mK⟩,?_⟩;rw[qD];refine jk (λr=> ?_) λr=> ?_
  ·rw[r] at d;refine iH ?_
   (dsimp only[aF,Qa,aB,aA,aK,dp,cf,aL];refine⟨trivial,?_⟩)
   rw[dg]
   (dsimp only[aA];refine⟨rfl,?_⟩)
   refine⟨by rw[Qd];exact c6<|by exact zb1 (zle (KF _ _) l) rfl,?_⟩;refine gZ ?_;refine bl ?_;dsimp only[aD,aF,Qa,aB,aA,aK];rw[vm];dsimp only[bB,aG,aL,Qa,aB,aA];refine v i _ Y ⟨f,o,a,L++[p],Ja (dN o,Jc),Ja (dP p,Jc),by exact zll Y<|zs W,J,by exact Kh E,⟨by exact Kh T,by rw[QG,WE];exact zle (QU<|QI _ _ _) l⟩,?_,?_⟩
   ·rw[Kr];exact d
   ·rw[QD];rfl
  ·rw[r] at d;refine iH ?_
   (dsimp only[aF,Qa,aB,aA,aK,dp,cf,aL];refine⟨trivial,?_⟩)
   rw[dg]
   (dsimp only[aA];refine⟨rfl,?_⟩)
   refine⟨by rw[Qd];exact c6<|by exact zb1 (zle (KF _ _) T) rfl,?_⟩;refine gZ ?_;refine bl ?_;dsimp only[aD,aF,Qa,aB,aA,aK];rw[vm];dsimp only[bB,aG,aL,Qa,aB,aA];refine v i _ Y ⟨f,o,a++[p],L,Ja (dN o,Jc),Ja (dP p,Jc),by exact zll Y<|zs W,J,by exact Kh E,⟨by rw[QG,WE];exact zle (QU<|QI _ _ _) T,by exact Kh l⟩,?_,?_⟩
   ·rw[Kr];exact d
   ·rw[QD];rfl
theorem pu(e:Env1 C G1 mg mb){ps:List Pl}(nd:ps.Nodup)(l:ps.length<=64){x:Pl->Int}{R L:List Pl}(P:∀p∈R,p∈ps)(o:∀p∈L,p∈ps){d V b:Bool}{Q:D->Prop}(T:Q (dCt ps (incs (-a) L (incs a R x)))):
  (aR<|aO C (n+1)).io "move" 0 [(dCt ps x,Jc),(.list<|R.map dP,d),(.list<|L.map dP,V),(.int a,b)] Q:=by
 refine e.fnI na (br 3 rfl) (x:="counts") rfl (by decide) rfl rfl ?_;dsimp only[na];dsimp only[aZ,cb,bv];refine dz rfl ?_;dsimp only[fsts,aC,aH,aW,aE,aI,aT,ct,aD,aF,Qa,aJ,aB,aA,aK,bo,bC,fR,fQ,fO,fK,dW,bE,fP,bI,cy,cp,gn,cJ,fN,fM,cw];refine cK dP (λi A=>∃u c,A=(Nb "counts" Jc (dCt ps<|incs a (R.take i) x)<|Nb "raised" c (.list<|R.map dP)<|Nb "lowered" V (.list<|L.map dP)<|Nb "amount" b (.int a)<|No "place" u<|[])) _ _ ⟨_,_,rfl⟩ ?_ ?_
 ·rintro j p A h ⟨u,c,rfl⟩ K k;rw[l5 a x h] at k;have U:=P p<|QB h;generalize incs a (R.take j) x=x at k ⊢;dsimp only[b8,aL,Qa,aM,aA,aB,bJ];refine jE b7 (a:=p) (g:=λp=> .int (x p)) (xs:=ps) (dk:=dP p) (dv:= .int (x p+a)) rfl nd (c6<|by exact zb1 l rfl) (cW p) (λQ q=> ?_) (λQ X q=> ?_) ?_
  ·dsimp only[oh,bp,aD,aF,Qa,aB,aA,aK,bw,aP,dy];refine aY (cU b7 (cW p) U) ?_
   (dsimp only[dD];refine⟨rfl,?_⟩)
   exact q
  ·dsimp only[aD,aF,Qa,aA,aB,aK];exact q
  ·dsimp only[aL,Qa,aB,aA];rw[t9 U];exact k _ ⟨_,_,rfl⟩
 rintro A ⟨u,c,rfl⟩;rw[Kj];generalize incs a R x=x at T ⊢;refine gZ ?_;refine dz rfl ?_;dsimp only[fsts,aC,aH,aW,aE,aI,aT,ct,aD,aF,Qa,aJ,aB,aA,aK,bo,bC,fR,fQ,fO,fK,dW,bE,bI,fP,cy,cp,gn,fN,fM,cw];refine cK dP (λi A=>∃u Z,A=(Nb "counts" Jc (dCt ps<|incs (-a) (L.take i) x)<|Nb "raised" c (.list<|R.map dP)<|Nb "lowered" Z (.list<|L.map dP)<|Nb "amount" b (.int a)<|No "place" u<|[])) _ _ ⟨_,_,rfl⟩ ?_ ?_
 ·rintro j p A h ⟨u,Z,rfl⟩ K k;rw[l5 (-a) x h] at k;have U:=o p<|QB h;generalize incs (-a) (L.take j) x=x at k ⊢;dsimp only[b8,aL,Qa,aM,aA,aB,bJ];refine jE b7 (a:=p) (g:=λp=> .int (x p)) (xs:=ps) (dk:=dP p) (dv:= .int (x p+ -a)) rfl nd (c6<|by exact zb1 l rfl) (cW p) (λQ q=> ?_) (λQ X q=> ?_) ?_
  ·dsimp only[oh,bp,aD,aF,Qa,aB,aA,aK,bw,aP,dy];refine aY (cU b7 (cW p) U) ?_
   (dsimp only[eH];refine⟨rfl,?_⟩)
   rw[Kt];exact q
  ·dsimp only[aD,aF,Qa,aA,aB,aK];exact q
  ·dsimp only[aL,Qa,aB,aA];rw[t9 U];exact k _ ⟨_,_,rfl⟩
 rintro A ⟨u,Z,rfl⟩;rw[Kj];exact⟨rfl,T⟩
end
theorem lx{r:Nat->Int}:∀ {l:List Nat},l.Nodup->(l.map (upd r i (r i+δ))).sum=(l.map r).sum+if i∈l then δ else 0
 |[]=>λo0=>rfl
 |k::l=>λnd=>by
  obtain⟨Y,n⟩:=Qx.mp nd;rw[Qo,QW,Qo,QW,lx n];by_cases e:k=i
  ·subst e;rw[bV,Y9 Y,Ua (.head _)];exact zr12 _ _ _
  ·rw[ck _ _ e];by_cases q:i∈l
   ·rw[Ua q,Ua (.tail _ q)];exact(KO _ _ _).symm
   ·rw[Y9 q,Y9 (λz=>(Qw.mp z).elim (λz=>e z.symm) q)];exact(KO _ _ _).symm
theorem mq{q:Nat}{v:Int}:∀ {l:List Nat},l.Nodup->(l.map λi=>if q=i then v else 0).sum=if q∈l then v else 0
 |[]=>λo0=>rfl
 |k::l=>λnd=>by
  obtain⟨Y,n⟩:=Qx.mp nd;rw[Qo,QW,mq n];by_cases e:q=k
  ·subst e;rw[Ua rfl,Y9 Y,Ua (.head _)];exact Kg _
  ·rw[Y9 e];by_cases z:q∈l
   ·rw[Ua z,Ua (.tail _ z)];exact Wh _
   ·rw[Y9 z,Y9 (λy=>(Qw.mp y).elim e z)];exact rfl
theorem dl{f:Pl->Nat}{x:Pl->Int}{l:List Nat}(nd:l.Nodup):∀ps:List Pl,(l.map λi=>sumOn (λp=>decide (f p=i)) ps x).sum=sumOn (λp=>decide (f p∈l)) ps x
 |[]=>h9 l
 |p::ps=>by
  rw[cY,<-dl nd ps,show(l.map λi=>sumOn (λp=>decide<|f p=i) (p::ps) x)=l.map λi=>(if f p=i then x p else 0)+sumOn (λp=>decide<|f p=i) ps x from Qm λi o0=> ?_,<-km,mq nd]
  ·by_cases h:f p∈l
   ·rw[Ua h,Ua (Y6 h)]
   ·rw[Y9 h,Y9 (by simpa using h)]
  ·rw[cY];by_cases h:f p=i
   ·rw[Ua h,Ua (Y6 h)]
   ·rw[Y9 h,Y9 (by simpa using h)]
theorem hU{f g:Pl->Bool}{x:Pl->Int}:∀ {ps:List Pl},(∀p∈ps,f p=g p\/x p=0)->sumOn f ps x=sumOn g ps x
 |[]=>λo0=>rfl
 |p::ps=>λh=>by
  rw[cY,cY,hU λq o=>h q (.tail _ o)]
  rcases h p (.head _) with e|e
  ·rw[e]
  ·rw[e];split<;>split<;>rfl
theorem qm{L:Type}{f:L->Int}:∀ {l:List L},(∀a∈l,0<=f a)->(l.map f).sum<=0->∀a∈l,f a=0:=λ{l} h i a T=>by
 induction l with
 |nil=>exact bQ T
 |cons b l W=>
  rw[Qo,QW] at i;have N:=h b<|.head _;have p:=jP λc Z=>h c<|.tail _ Z
  rcases Qw.mp T with e|T
  ·rw[e];exact WU (QL (Ks p) i) N
  ·exact W (λc Z=>h c<|.tail _ Z) (QL (Int.le_add_of_nonneg_left N) i) T
theorem nP{f:Nat->Int}{p:Nat->Bool}:∀ {l:List Nat},(∀a∈l,p a=Jd->f a=0)->((l.filter p).map f).sum=(l.map f).sum
 |[]=>λo0=>rfl
 |a::l=>λh=>by
  rw[Qo,QW];have i:=nP λb v=>h b<|.tail _ v
  induction D:p a with
  |true=>rw[QZ D,Qo,QW,i]
  |false=>rw[Ka (by rw[D];exact QC),i,h a (.head _) D,Wh]
set_option genCtorIdx false in
inductive Out where
 |tab(x:Pl->Int)
 |no(pa pb:Nat->Bool)
noncomputable abbrev Out.ctorIdx(x:Out):Nat:=Out.casesOn x (λo0=>0) (λo0 o0=>1)
noncomputable def stF(h:Nat)(r:Nat->Int):List Nd:=((Qc h).filter λi=>decide (r i>0)).map .r
abbrev cameF(ps:List Pl)(h:Nat)(x:Pl->Int)(r:Nat->Int):Bs:=bfsF ps x<|stF h r
def goalF(w:Nat)(c:Nat->Int)(B:Bs):List Nat:=(numF Jd w B.1).filter λj=>decide<|c j>0
abbrev wayG(B:Bs)(g:Nat):Way:=wayF B 17<|.c g
def amt(x:Pl->Int)(r c:Nat->Int)(W:Way)(g:Nat):Int:=lmin (r W.E.no::c g::W.L.map x)
noncomputable def outG(o:Out)(k:Nat->Out):List Nat->Out
 |[]=>o
 |g::_=>k g
noncomputable def outF(ps:List Pl)(h w:Nat):Nat->(Pl->Int)->(Nat->Int)->(Nat->Int)->Out
 |0,x,_,_=> .tab x
 |k+1,x,r,c=>if((Qc h).map r).sum>0 then
   outG (.no (λi=>decide (Nd.r i∈(cameF ps h x r).1)) (λj=>decide (Nd.c j∈(cameF ps h x r).1))) (λg=>outF ps h w k (incs (-amt x r c (wayG (cameF ps h x r) g) g) (wayG (cameF ps h x r) g).L (incs (amt x r c (wayG (cameF ps h x r) g) g) (wayG (cameF ps h x r) g).R x))
    (upd r (wayG (cameF ps h x r) g).E.no (r (wayG (cameF ps h x r) g).E.no-amt x r c (wayG (cameF ps h x r) g) g)) (upd c g (c g-amt x r c (wayG (cameF ps h x r) g) g))) (goalF w c (cameF ps h x r))
  else .tab x
abbrev rowS(ps:List Pl)(x:Pl->Int)(i:Nat):Int:=sumOn (λp=>decide (p.1=i)) ps x
abbrev colS(ps:List Pl)(x:Pl->Int)(j:Nat):Int:=sumOn (λp=>decide (p.2=j)) ps x
structure Fill(ps:List Pl)(h w:Nat)(R C:Nat->Int)(x:Pl->Int)(r c:Nat->Int):Prop where
 x0:∀p∈ps,0<=x p
 r0:∀i,i<h->0<=r i
 c0:∀j,j<w->0<=c j
 row:∀i,i<h->rowS ps x i+r i=R i
 col:∀j,j<w->colS ps x j+c j=C j
 eq:((Qc h).map r).sum=((Qc w).map c).sum
structure Sz(ps:List Pl)(h w:Nat):Prop where
 nd:ps.Nodup
 mem:∀p∈ps,p.1<h/\p.2<w
 h8:h<=8
 w8:w<=8
def Good(ps:List Pl)(h w:Nat)(R C:Nat->Int):Out->Prop
 | .tab x=>(∀p∈ps,0<=x p)/\(∀i,i<h->rowS ps x i=R i)/\∀j,j<w->colS ps x j=C j
 | .no a b=>(∀p∈ps,a p.1=Jc->b p.2=Jc)/\0<(((Qc h).filter a).map R).sum-(((Qc w).filter b).map C).sum
theorem xL(h:Nat)(r:Nat->Int):(stF h r).Nodup:=by
 unfold stF;rw[QP,Wk];exact((QP.mp Ko).filter _).imp λh q=>h<|Nd.r.inj q
theorem tI{r:Nat->Int}(W:y∈stF h r):∃i,y= .r i/\i<h/\0<r i:=by
 obtain⟨i,t,rfl⟩:=Ql.mp W;obtain⟨N,p⟩:=Qh.mp t;exact⟨i,rfl,Qf.mp N,Y8 p⟩
theorem s7{r:Nat->Int}:∀y∈stF h r,y∈allN h w:=λy W=>by
 obtain⟨i,rfl,N,o0⟩:=tI W;exact Qk _<|Ql.mpr ⟨i,Qf.mpr N,rfl⟩
section
variable{ps:List Pl}{h w:Nat}{R C:Nat->Int}{x:Pl->Int}{r c:Nat->Int}
theorem mM(S:Sz ps h w):Bfs ps x (stF h r) h w (cameF ps h x r)/\∀z∈(cameF ps h x r).1,∀e∈nbrs ps z,okE x z e.2=Jc->e.1∈(cameF ps h x r).1:=
 qf S.mem (Ki S.h8 S.w8) 17 0 _ (.start (xL h r) s7) (λi z t=>absurd t<|Wd _) (QT _) (by decide)
theorem AT(S:Sz ps h w)(F:Fill ps h w R C x r c)(s:((Qc h).map r).sum>0)(g:goalF w c (cameF ps h x r)=[]):
  Good ps h w R C (.no (λi=>decide<|Nd.r i∈(cameF ps h x r).1) λj=>decide<|Nd.c j∈(cameF ps h x r).1):=by
 obtain⟨b,M⟩:=mM (x:=x) (r:=r) S;generalize cameF ps h x r=B at b M g ⊢;have Z:∀p∈ps,Nd.r p.1∈B.1->Nd.c p.2∈B.1:=λp D n=>M _ n (.c p.2,p) (Ql.mpr ⟨p,Qh.mpr ⟨D,Y6 rfl⟩,rfl⟩) rfl;have X:∀p∈ps,0<x p->Nd.c p.2∈B.1->Nd.r p.1∈B.1:=λp D hx n=>M _ n (.r p.1,p) (Ql.mpr ⟨p,Qh.mpr ⟨D,Y6 rfl⟩,rfl⟩)<|decide_eq_true hx;refine⟨λp D n=>Y6<|Z p D (Y8 n),?_⟩;have A:((Qc h).filter λi=>decide<|Nd.r i∈B.1).Nodup:=Ko.filter _;have O:((Qc w).filter λj=>decide<|Nd.c j∈B.1).Nodup:=Ko.filter _;have T:(((Qc h).filter λi=>decide<|Nd.r i∈B.1).map R).sum=sumOn (λp=>decide<|p.1∈(Qc h).filter λi=>decide<|Nd.r i∈B.1) ps x+((Qc h).map r).sum:=by
  rw[<-dl (f:=(·.1)) A,<-nP (p:=λi=>decide<|Nd.r i∈B.1) (f:=r) (l:=Qc h),km]
  ·exact Ud Wn<|Qm λi t=>(F.row i<|Qf.mp (Qh.mp t).1).symm
  ·intro i t D;have N:=F.r0 i (Qf.mp t)
   rcases Int.lt_or_eq_of_le N with q|q
   ·exact absurd (b.has _<|Ql.mpr ⟨i,Qh.mpr ⟨t,Y6 q⟩,rfl⟩)<|of_decide_eq_false D
   ·exact q.symm
 have e:(((Qc w).filter λj=>decide<|Nd.c j∈B.1).map C).sum=sumOn (λp=>decide<|p.2∈(Qc w).filter λj=>decide<|Nd.c j∈B.1) ps x:=by
  rw[<-dl (f:=(·.2)) O];refine Ud Wn (Qm λj H=> ?_);have K:=Qf.mp (Qh.mp H).1;have N:=F.c0 j K;have Y:¬c j>0:=λq=>by
   have:j∈goalF w c B:=Qh.mpr ⟨H,Y6 q⟩;rw[g] at this;cases this
  have:=F.col j K;show C j=colS ps x j;exact zr11 N Y this
 have W:sumOn (λp=>decide<|p.1∈(Qc h).filter λi=>decide<|Nd.r i∈B.1) ps x=sumOn (λp=>decide<|p.2∈(Qc w).filter λj=>decide<|Nd.c j∈B.1) ps x:=by
  refine hU λp D=> ?_;obtain⟨o,U⟩:=S.mem p D
  rcases Int.lt_or_eq_of_le (F.x0 p D) with q|q
  ·refine .inl<|decide_eq_decide.mpr ?_;rw[Qh,Qh,Qf,Qf,Uc,Uc];exact⟨λz=>⟨U,Z p D z.2⟩,λz=>⟨o,X p D q z.2⟩⟩
  ·exact .inr q.symm
 rw[T,e,W];exact zr9 s
structure Turn(ps:List Pl)(h w:Nat)(R C:Nat->Int)(x:Pl->Int)(r c:Nat->Int)(B:Bs)(g:Nat):Prop where
 gw:g<w
 gB:∃j:Nat,B.1[j]? =Ja (Nd.c g)
 ih:(wayG B g).E= .r (wayG B g).E.no/\(wayG B g).E.no<h
 inR:∀p∈(wayG B g).R,p∈ps
 inL:∀p∈(wayG B g).L,p∈ps
 len:(wayG B g).L.length<=ps.length
 a1:1<=amt x r c (wayG B g) g
 ar:amt x r c (wayG B g) g<=r (wayG B g).E.no
 fill:Fill ps h w R C (incs (-amt x r c (wayG B g) g) (wayG B g).L (incs (amt x r c (wayG B g) g) (wayG B g).R x)) (upd r (wayG B g).E.no (r (wayG B g).E.no-amt x r c (wayG B g) g)) (upd c g<|c g-amt x r c (wayG B g) g)
 less:((Qc h).map (upd r (wayG B g).E.no (r (wayG B g).E.no-amt x r c (wayG B g) g))).sum=((Qc h).map r).sum-amt x r c (wayG B g) g
theorem qE(S:Sz ps h w)(F:Fill ps h w R C x r c)(P:goalF w c (cameF ps h x r)=g::gs):Turn ps h w R C x r c (cameF ps h x r) g:=by
 obtain⟨b,o0⟩:=mM (x:=x) (r:=r) S;generalize cameF ps h x r=B at b P ⊢;have O:=S.h8;have d:=S.w8;have m:g∈goalF w c B:=P▸ .head _;obtain⟨g1,X⟩:=Qh.mp m;obtain⟨G,I⟩:=Qh.mp g1;have v:=Qf.mp G;have L:0<c g:=Y8 X;have o:Nd.c g∈B.1:=Y8 I;obtain⟨j,H⟩:=Yr o;have Q:=b.len;have K:=(QF.mp H).1;have W:=pj b 17 j (.c g) H (by exact zll K<|zle Q (zb2 (Ki O d) rfl));generalize y:wayF B 17 (.c g)=V at W;obtain⟨i,t,E,ri⟩:=tI W.e;have n:V.E.no=i:=by rw[t];rfl
 have Z:r V.E.no::c g::V.L.map x≠ []:=λq=>nomatch q
 have A:=ij Z;have J:1<=amt x r c V g:=by
  rcases Qw.mp A.1 with q|q
  ·unfold amt;rw[q,n];exact ri
  ·rcases Qw.mp q with q|q
   ·unfold amt;rw[q];exact L
   ·obtain⟨p,D,e⟩:=Ql.mp q;unfold amt;rw[<-e];exact(W.l p D).2
 have U:amt x r c V g<=r V.E.no:=A.2 _<|.head _;have u:amt x r c V g<=c g:=A.2 _<|.tail _ (.head _);have l:∀p∈V.L,amt x r c V g<=x p:=λp D=>A.2 _<|.tail _ (.tail _<|Ql.mpr ⟨p,D,rfl⟩);generalize T:amt x r c V g=a at J U u l;have s:∀f:Pl->Bool,sumOn f ps (incs (-a) V.L<|incs a V.R x)=sumOn f ps x+a*((V.R.countP f:Nat)-(V.L.countP f:Nat):Int):=λf=>by
  rw[fE S.nd λp D=>(W.l p D).1,fE S.nd W.r,Int.mul_sub,Int.neg_mul];exact KO _ _ _
 have less:((Qc h).map (upd r V.E.no<|r V.E.no-a)).sum=((Qc h).map r).sum-a:=by
  rw[Kt,lx Ko,Ua (Qf.mpr<|by rw[n];exact E)];exact rfl
 refine⟨v,⟨j,H⟩,?_,?_,?_,?_,?_,?_,?_,?_⟩<;>(try rw[wayG])<;>rw[y]
 ·exact⟨by rw[n];exact t,by rw[n];exact E⟩
 ·exact W.r
 ·exact λp D=>(W.l p D).1
 ·exact tZ W.nd λp D=>(W.l p D).1
 ·rw[T];exact J
 ·rw[T];exact U
 ·rw[T];refine⟨λp D=> ?_,λk M=> ?_,λk M=> ?_,λk M=> ?_,λk M=> ?_,?_⟩
  ·have N:=mL (δ:=a) (by exact QL (by decide) J) (R:=V.R) (x:=x) p;have Y:=F.x0 p D;by_cases q:p∈V.L
   ·rw[ov W.nd q];have:=l p q;exact WJ<|QL this N
   ·rw[eR q];exact QL Y N
  ·by_cases q:k=V.E.no
   ·subst q;rw[bV];exact WJ U
   ·rw[ck _ _ q];exact F.r0 k M
  ·by_cases q:k=g
   ·subst q;rw[bV];exact WJ u
   ·rw[ck _ _ q];exact F.c0 k M
  ·have N:=W.row k;dsimp only[cR] at N;rw[dA (p:=Nd.c g= .r k) (λq=>nomatch q)] at N;have Y:=F.row k M;unfold rowS at Y ⊢;rw[s];by_cases q:k=V.E.no
   ·subst q;rw[bV];rw[fA (by rw[n];exact t)] at N;rw[show((V.R.countP λp=>decide (p.1=V.E.no):Nat)-(V.L.countP λp=>decide (p.1=V.E.no):Nat):Int)=1 by exact N,Int.mul_one];exact zr1 Y
   ·rw[ck _ _ q];rw[dA (λz=>q<|by rw[n];rw[t] at z;exact(Nd.r.inj z).symm)] at N;rw[show((V.R.countP λp=>decide (p.1=k):Nat)-(V.L.countP λp=>decide (p.1=k):Nat):Int)=0 by exact N,Int.mul_zero];exact zr2 Y
  ·have N:=W.col k;dsimp only[cC] at N;rw[dA (p:=V.E= .c k) (λq=>by rw[t] at q;cases q)] at N;have Y:=F.col k M;unfold colS at Y ⊢;rw[s];by_cases q:k=g
   ·subst q;rw[bV];rw[fA rfl] at N;rw[show((V.R.countP λp=>decide (p.2=k):Nat)-(V.L.countP λp=>decide (p.2=k):Nat):Int)=1 by exact N,Int.mul_one];exact zr1 Y
   ·rw[ck _ _ q];rw[dA (λz=>q (Nd.c.inj z).symm)] at N;rw[show((V.R.countP λp=>decide (p.2=k):Nat)-(V.L.countP λp=>decide (p.2=k):Nat):Int)=0 by exact N,Int.mul_zero];exact zr2 Y
  ·rw[less,show c g-a=c g+ -a from Kt,lx Ko,Ua<|Qf.mpr v,F.eq];exact rfl
 ·rw[T];exact less
theorem pC(S:Sz ps h w):∀ (f:Nat) (x:Pl->Int) (r c:Nat->Int),Fill ps h w R C x r c->((Qc h).map r).sum.toNat<f->Good ps h w R C (outF ps h w f x r c)
 |0=>λx r c o0 j=>absurd j<|Wd _
 |f+1=>λx r c F j=>by
  show Good ps h w R C (if((Qc h).map r).sum>0 then outG _ _ _ else .tab x);by_cases s:((Qc h).map r).sum>0
  ·rw[Ua s]
   induction e:goalF w c (cameF ps h x r) using List.casesOn with
   |nil=>exact AT S F s e
   |cons g y=>
    have T:=qE S F e;refine pC S f _ _ _ T.fill ?_;exact zll (ztn s T.a1 T.less)<|zs j
  ·rw[Y9 s];have z1:=qm (f:=r) (l:=Qc h) (λi t=>F.r0 i<|Qf.mp t) (by exact KI.mp s);have z2:=qm (f:=c) (l:=Qc w) (λi t=>F.c0 i<|Qf.mp t) (by rw[<-F.eq];exact KI.mp s);refine⟨F.x0,λi t=> ?_,λi t=> ?_⟩
   ·have:=F.row i t;rw[z1 i (Qf.mpr t)] at this;exact(Kg _).symm.trans this
   ·have:=F.col i t;rw[z2 i (Qf.mpr t)] at this;exact(Kg _).symm.trans this
end
theorem ub{G:Gx}{c:DCl}{L:DRho}{K:DRho->Prop}(a:List E)(x:String)(b:List E):dio G c f L K (Ja (a,x,b))=(G.fn f=Jc/\dwes G c a L (λv=>offs x v=Jc/\dOE (λp=>p.2=Jc/\dwes G c b L (λq=>offs x q=Jc/\
   c.io f v.length (lent v++(p.1,Jc)::lent q) λd=>K (L.put x (d,Jc))) λo0 o0=>False) (L.get x)) λo0 o0=>False):=rfl
theorem x6(d:D)(l:List D):D.eqv (.list (d::l)) (.list [])=Jd:=rfl
theorem pw(d:D)(l:List D):dsub (.list (d::l)) (.int 0)=Ja d:=iW (l:=d::l) (j:=0) rfl
theorem ints2{L:Type}(g:L->Int)(a b:Int)(l:List L):dInts (.int a:: .int b::l.map λp=> .int (g p))=Ja (a::b::l.map g):=by
 show((dInts<|l.map λp=> .int (g p)).map (b:: ·)).map (a:: ·)=_;rw[d3];rfl
theorem oN{L:DRho}{d:D}{K:DRho->Prop}:dput L x [] d K=dOE (λo0=>K (L.put x (d,Jc))) (L.get x):=rfl
theorem lZ{r:Nat->Int}(hi:i<h)(v:Int):D.list ((((Qc h).map r).map D.int).set i (.int v))=dI ((Qc h).map (upd r i v)):=by
 rw[<-YA]
 congr 2
 refine Wz λk=> ?_;rw[KQ,Qd,QA,Ua hi,Qs,Qs];by_cases q:i=k
 ·subst q;rw[Ua rfl,Wp hi];show Ja v=Ja (upd r i v i);rw[bV]
 ·rw[Y9 q]
  induction M:(Qc h)[k]? with
  |none=>rfl
  |some m=>
   have L:m=k:=by
    obtain⟨N,p⟩:=QF.mp M;rw[Wt] at p;exact p.symm
   show Ja (r m)=Ja (upd r i v m);rw[ck _ _ (by rw[L];exact λz=>q z.symm)]
theorem ix{r:Nat->Int}(hi:i<h):dsub (dI ((Qc h).map r)) (.int i)=Ja (.int (r i)):=by
 rw[gp (by rw[Qd,QA];exact hi),fB _ hi]
theorem AC(c:List (List (Option Int)))(h w:Nat):(psF c h w).Nodup:=by
 refine List.Pairwise.filter _ ?_;show(allF h w).Nodup
 induction h with
 |zero=>exact .nil
 |succ h i=>
  refine Qu.mpr ⟨i,?_,λa T b R q=> ?_⟩
  ·rw[QP,Wk];exact(QP.mp Ko).imp λh q=>h (Prod.mk.inj q).2
  ·subst q;obtain⟨j,o0,rfl⟩:=Ql.mp R;exact absurd (allF_mem.mp T).1 (KJ _)
theorem nF(y:h<=8)(T:w<=8):(psF c h w).length<=64:=by
 refine Qn (KX _ _) ?_;rw[jt];exact Yc y T
theorem iL(R:Rect c h w):Sz (psF c h w) h w:=⟨AC c h w,λp D=>⟨(jA D).1,(jA D).2.1⟩,R.h8,R.w8⟩
def outV(c:List (List (Option Int)))(r s:List Int)(h w:Nat):Out:=outF (psF c h w) h w (((Qc h).map (r1F c r)).sum.toNat+1) (λo0=>0) (r1F c r) (r2F c s)
theorem ti(f:Pl->Bool)(ps:List Pl):sumOn f ps (λo0=>0)=0:=h9 _
theorem fill0(V:VOK c r s h w):Fill (psF c h w) h w (r1F c r) (r2F c s) (λo0=>0) (r1F c r) (r2F c s):=
 ⟨λp o0=>QX _,V.n1,V.n2,λi o0=>by rw[rowS,ti,Wh],λi o0=>by rw[colS,ti,Wh],V.eq⟩
theorem lH{y:Nd}(W:y∈allN h w):(y.isR=Jc->y.no<h)/\(y.isR=Jd->y.no<w):=by
 rcases Qr.mp W with q|q
 ·obtain⟨i,t,rfl⟩:=Ql.mp q;exact⟨λo0=>Qf.mp t,λz=>(tf z)⟩
 ·obtain⟨i,t,rfl⟩:=Ql.mp q;exact⟨λz=>(ft z),λo0=>Qf.mp t⟩
theorem zN{x:Pl->Int}{r c:Nat->Int}(s:((Qc h).map r).sum>0)(g:goalF w c (cameF ps h x r)=[]):
  outF ps h w (f+1) x r c= .no (λi=>decide<|Nd.r i∈(cameF ps h x r).1) (λj=>decide<|Nd.c j∈(cameF ps h x r).1):=by
 refine(Ua s).trans ?_;rw[g];rfl
theorem xR{x:Pl->Int}{r c:Nat->Int}(s:((Qc h).map r).sum>0)(S:goalF w c (cameF ps h x r)=g::gs):
  outF ps h w (f+1) x r c=outF ps h w f (incs (-amt x r c (wayG (cameF ps h x r) g) g) (wayG (cameF ps h x r) g).L (incs (amt x r c (wayG (cameF ps h x r) g) g) (wayG (cameF ps h x r) g).R x))
    (upd r (wayG (cameF ps h x r) g).E.no (r (wayG (cameF ps h x r) g).E.no-amt x r c (wayG (cameF ps h x r) g) g)) (upd c g<|c g-amt x r c (wayG (cameF ps h x r) g) g):=by
 refine(Ua s).trans ?_;rw[S];rfl
theorem wE{x:Pl->Int}{r c:Nat->Int}(s:¬ ((Qc h).map r).sum>0):outF ps h w (f+1) x r c= .tab x:=by
 exact Y9 s
inductive CtI(ps:List Pl)(h w:Nat)(Rr Cc:Nat->Int)(O:Out)(vw pl nr:D)(k:Nat)(Δ:DRho):Prop
 |mk (x:Pl->Int) (ρ γ:Nat->Int) (f:Nat) (cv cn:Bool) (u1 u2 u3 u4 u5 u6 u7:Option (D×Bool)) (F:Fill ps h w Rr Cc x ρ γ) (hk:((Qc h).map ρ).sum.toNat=k) (hf:k<f) (hO:outF ps h w f x ρ γ=O)
  (e:Δ=(Nb "view" cv vw<|Nb "places" Jd pl<|Nb "near" cn nr<|Nb "counts" Jc (dCt ps x)<|No "place" u7<|Nb "rows" Jc (dI<|(Qc h).map ρ)<|Nb "columns" Jc (dI<|(Qc w).map γ)<|No "came" u1<|No "goals" u2<|No "raised" u3<|No "lowered" u4<|No "start" u5<|No "amount" u6<|[])):CtI ps h w Rr Cc O vw pl nr k Δ
section
variable{C:Cx}{mg mb:Jq->Option Jf}{n:Nat}{Q:D->Bool->Prop}{X:DX}
theorem pV(e:Env1 C G1 mg mb)(V:VOK c r s h w)(Y:∀x,outV c r s h w= .tab x->Q (dCt (psF c h w) x) Jc)
  (v:∀pa pb,outV c r s h w= .no pa pb->X "NoTable" [.hole,.hole]):aR (aO C<|n+3) "counts_of" [(.tup [dC c,dI r,dI s],b)] Q X:=by
 refine e.fn fV (br 21 rfl) rfl λcl cu PQ PX G=> ?_;dsimp only[fV];dsimp only[aZ,cb,bv];have S:=iL V.R;have F0:=fill0 V;have l:(psF c h w).length<=64:=nF V.R.h8 V.R.w8;unfold outV at Y v;refine bl ?_
 (dsimp only[aQ,flags,aC,aH,aW,aE,aI,aT,aP,aN,aD,aF,Qa,aJ,aB,aA,aK,bR,tgl,bz,bI,bA,bE,dY,cG,bo,aS,bC,ch,bO];refine⟨rfl,?_⟩)
 refine G.hc<|iS e V.R ?_;dsimp only[aA,bo,bB,aG,aL,Qa,aM,aB];generalize psF c h w=I at S F0 l Y v ⊢;generalize hR:r1F c r=M at F0 Y v ⊢;generalize hC:r2F c s=Cc at F0 Y v ⊢;generalize P:outF I h w (((Qc h).map M).sum.toNat+1) (λo0=>0) M Cc=O at Y v;have U:h+w<=16:=Ki S.h8 S.w8;refine bl ?_
 (dsimp only[aQ,flags,aC,aH,aW,aE,aI,aT,aD,aF,Qa,aJ,aB,aA,aK,bo,aS,bC,ch,bO];refine⟨rfl,?_⟩)
 refine G.hc (pM e l λns N=> ?_);dsimp only[aA,dy,bB,aG,aL,Qa,aM,aB];refine bl ?_
 (dsimp only[iy,bB,aG,aL,Qa,aM,aB,aA];refine⟨rfl,?_⟩)
 refine dz rfl ?_;dsimp only[fsts,aC,aH,aW,aE,aI,aT,ct,aD,aF,Qa,aJ,aB,aA,aK,bo,bC,fR,fQ,fO,fK,gE,bz,bI,bA,bE,fP,dW,gn,cJ,fN,fM,cw];refine cK dP (λi Δ=>∃u,Δ=(Nb "view" b (.tup [dC c,dI r,dI s])<|Nb "places" Jd (.list<|I.map dP)<|Nb "near" Jc (md Nd.key (nearG I) ns)<|Nb "counts" Jc (dCt (I.take i)<|λo0=>0)<|No "place" u<|No "rows" Jb<|No "columns" Jb<|No "came" Jb<|No "goals" Jb<|No "raised" Jb<|No "lowered" Jb<|No "start" Jb<|No "amount" Jb<|[])) _ _ ⟨_,rfl⟩ ?_ ?_
 ·rintro j p Δ d ⟨u,rfl⟩ K kn;have ab:=mV S.nd d;dsimp only[b8,aL,Qa,aM,aB,aA,bJ];refine jE b7 (a:=p) (g:=λo0=> .int 0) (xs:=I.take j) (dk:=dP p) (dv:= .int 0) rfl (S.nd.sublist<|Ye _ _) (c6<|by rw[Yq];exact zl (WK _ _)<|zb1 l rfl) (cW p) (λQ q=> ?_) (λQ X q=> ?_) ?_
  ·exact⟨rfl,q⟩
  ·dsimp only[aD,aF,Qa,aJ,aB,aA,aK];exact q
  ·dsimp only[aL,Qa,aM,aB,aA];refine kn _ ⟨Ja (dP p,Jc),?_⟩;rw[fy d,k4 ab,show upd (λo0=>D.int 0) p (.int 0)=λo0=>D.int 0 from by funext z;unfold upd;split<;>rfl];rfl
 rintro Δ ⟨u0,rfl⟩;rw[Kj];refine gZ ?_;refine c7 rfl ?_
 (dsimp only[aQ,flags,aC,aH,aW,aE,aI,aT,aD,aF,Qa,aJ,aB,aA,aK,bR,tgl,bz,bI,bA,bE,aS,bC,ch,bO];refine⟨rfl,?_⟩)
 refine G.hc<|qw e V.R V.hr V.hs ?_;dsimp only[aA,bR,tgl,bz,bI,bA,bE,aB,aG,bB,fJ,aL,Qa,aM,bJ];rw[hR,hC];refine ig rfl (((Qc h).map M).sum.toNat+1) ?_;refine fC (CtI I h w M Cc O (.tup [dC c,dI r,dI s]) (.list<|I.map dP)<|md Nd.key (nearG I) ns)
  ?_ _ ((Qc h).map M).sum.toNat _ (QN _) ⟨λo0=>0,M,Cc,_,_,_,_,_,_,_,_,_,_,F0,rfl,QN _,P,rfl⟩
 rintro k Δ ⟨x,L,t,f,cv,cn,u1,u2,u3,u4,u5,u6,u7,F,hk,hf,P,rfl⟩ K kn;clear F0;obtain⟨f,rfl⟩:∃f',f=f'+1:=⟨f-1,by exact zpr hf⟩
 (dsimp only[aX,bt,aN,bj,gm,j4,aC,aE,bW,aD,aF,Qa,aJ,aB,aA,aK,dp];refine⟨rfl,?_⟩)
 refine gx (fH _) ?_;refine cM (λA=> ?_) λA=> ?_
 rotate_left
 ·rw[wE A] at P;refine gZ ?_;refine cZ ?_
  (dsimp only[cf,aL,Qa,aM,aB,aA,aF,aJ,aK,dW];refine⟨rfl,?_⟩)
  exact G.qr<|Y x P.symm
 have J:Bfs I x (stF h L) h w (bfsF I x<|stF h L):=(mM (x:=x) (r:=L) S).1;have Z:=J.len;refine bl ?_
 (dsimp only[aQ,flags,aC,aH,aW,aE,aI,aT,eT,aG,bu,aD,aF,Qa,aJ,aB,aA,aK,dy,aS];refine⟨rfl,?_⟩)
 refine cx rfl ?_
 (dsimp only[fsts,aC,aH,aW,aE,aI,aT,bj,bS,bu,g7,g8,bW,aD,aF,Qa,aJ,aB,aA,aK,cE,cB];refine⟨rfl,?_⟩)
 rw[Qd,Qd,QA];refine⟨rg S.h8,fU (λk=>dN<|.r k) (λi=>decide<|L i>0) (λi hi=> ?_) ?_⟩
 ·dsimp only[bq,cF,b8,aM,Qa,aL,aB,aA,bJ];refine⟨λT hT=> ?_,λo0 K k=> ?_⟩
  ·dsimp only[tstD];dsimp only[aX,bt,aN,aP,aD,aJ,Qa,aF,aB,aA,aK];refine aY (ix hi) ?_;dsimp only[j4];exact hT
  ·dsimp only[elD];dsimp only[bK,fsts,dtup,aC,aH,aU,aW,aE,aI,aV,aT,aD,aJ,Qa,aF,aB,aA,aK,bw,bu,b9];refine gK ?_
   (dsimp only[bu];refine⟨by decide,?_⟩)
   exact k
 rw[show(((Qc h).filter λi=>decide<|L i>0).map λk=>dN<|.r k)=(stF h L).map dN from by rw[stF,QE];rfl];dsimp only[aG,bu,bC,ch,ej,bO];refine G.hc<|jT (ban:=Jb) e N S.mem S.h8 S.w8 (xL h L) s7 ?_;rw[xm];dsimp only[aA,dy,bB,aG,aL,Qa,aM,aB];generalize hB:bfsF I x (stF h L)=B at J Z ⊢;refine bl ?_;refine cx rfl ?_
 (dsimp only[fsts,aC,aH,aW,aE,aI,aT,ct,aQ,flags,b9,aD,aF,Qa,aJ,aB,aA,aK,dy,aS];refine⟨rfl,?_⟩)
 refine gq ?_;dsimp only[aG,bu,bC,ch,bO];refine G.hc<|lE (b:=Jd) (m:=w) e J.nd (by exact zle Z U) (λy hy hr=>(lH<|J.val y hy).2 hr) ?_;dsimp only[cw,aA,bo,bu];refine ca (λ(k:Nat)=> .int (k:Int)) (λ(k:Nat)=> .int (k:Int)) (λj=>decide<|t j>0) (λj d=> ?_) ?_
 ·have d:=Qf.mp (Qh.mp d).1;dsimp only[bq,cF,b8,aM,Qa,aL,aB,aA,bJ];refine⟨λT hT=> ?_,λo0 K k=> ?_⟩
  ·dsimp only[tstD];dsimp only[aX,bt,aN,aP,aD,aJ,Qa,aF,aB,aA,aK];refine aY (ix d) ?_;dsimp only[j4];exact hT
  ·dsimp only[elD];dsimp only[aD,aJ,Qa,aF,aB,aA,aK,bw];exact k
 dsimp only[bB,aG,aL,Qa,aM,aB,aA];have o:((numF Jd w B.1).filter λj=>decide<|t j>0)=goalF w t (cameF I h x L):=by rw[show cameF I h x L=B from hB];rfl
 rw[o]
 induction hg:goalF w t (cameF I h x L) using List.casesOn with
 |nil=>
  rw[zN A hg,show cameF I h x L=B from hB] at P;refine cg ?_
  (dsimp only[aI,aX,bt,c4,deq,bH,fsts,dnew,aE,aV,aD,aF,Qa,aJ,aB,aA,aK];refine⟨by decide,⟨rfl,rfl⟩,?_⟩)
  refine mP ⟨rfl,rfl,.inr ⟨rfl,rfl⟩⟩ ?_
  (dsimp only[fsts,aC,aH,aE,aI,aQ,flags,b9,aD,aF,Qa,aJ,aB,aA,aK,dy,aS];refine⟨rfl,?_⟩)
  refine gK ?_;dsimp only[aG];refine G.hc<|lE (b:=Jc) (m:=h) e J.nd (by exact zle Z U) (λy hy hr=>(lH<|J.val y hy).1 hr) ?_;refine⟨rfl,?_⟩;refine gq ?_;dsimp only[aG];refine G.hc<|lE (b:=Jd) (m:=w) e J.nd (by exact zle Z U) (λy hy hr=>(lH<|J.val y hy).2 hr) ?_;exact G.qx<|v _ _ P.symm
 |cons g gs=>
  have T:=qE S F hg;rw[xR A hg] at P;rw[show cameF I h x L=B from hB] at T P;have ad:=U;obtain⟨jg,ac⟩:=T.gB;refine cg ?_
  (dsimp only[aH,aX,bt,c4,deq,bH,fsts,dnew,aE,aI,aV,aD,aF,Qa,aJ,aB,aA,aK];refine⟨by decide,?_⟩)
  refine⟨⟨by rw[eS];exact cj _ (λa=>f7 _ _) _,rfl⟩,?_⟩;rw[x6];dsimp only[aB];refine c7 rfl ?_
  (dsimp only[aQ,flags,aC,aH,aW,aE,aI,aT,bK,fsts,dtup,aU,aV,aP,aN,aD,aF,Qa,aJ,aB,aA,aK,bo,b9,dy,aS];refine⟨rfl,?_⟩)
  refine gq ?_;dsimp only[bu];refine aY (pw _ _) ?_
  (dsimp only[bw,bu,aG,bC,ch,bO];refine⟨by decide,?_⟩)
  refine G.hc<|uw (y:= .c g) e J U ac ?_;dsimp only[aA,bR,tgl,bz,bI,bA,bE,aB,aG,bB,rM,aL,Qa,aM,bJ];refine bl ?_
  (dsimp only[bj,nH,aC,aE,wk,bB,aG,aL,Qa,aM,aA,aB,bp,bH,fsts,dnew,aH,aU,aW,aI,aV,aT,aP,aN,aD,aF,aJ,aK,bo];refine⟨rfl,?_⟩)
  refine aY (qM _) ?_;refine aY (ix T.ih.2) ?_;dsimp only[bw,bu];refine aY (pw _ _) ?_;refine aY (ix T.gw) ?_
  (dsimp only[bw,bu];refine⟨by decide,?_⟩)
  refine b6 rfl ?_;dsimp only[fsts,jc,ej,bO,bu,tgl,bz,cy,cp,dnew,aU,dp,aC,aH,aW,aE,aI,aT,ct,aD,aF,Qa,aJ,aB,aA,aK,bo,bC,cw];refine bG dP (λp=> .int (x p)) (λp hp K k=> ?_) ?_
  ·dsimp only[bq,cF,b8,aM,Qa,aL,aB,aA,bJ];dsimp only[elD];dsimp only[aP,aD,aJ,Qa,aF,aB,aA,aK,dy];refine aY (cU b7 (cW p)<|T.inL p hp) ?_;dsimp only[bw];exact k
  refine⟨by rw[Qd];exact dB (by have:(wayF B 17<|.c g).L.length<=I.length:=T.len;exact zb2 (Kl (zle this l) 2) rfl),?_⟩;refine gx (ints2 _ _ _ _) ?_;refine⟨λq=>(nomatch q),?_⟩;rw[show lmin (L (wayG B g).E.no::t g::(wayF B 17<|.c g).L.map x)=amt x L t (wayG B g) g from rfl];have aa:=T.ar;have H:=T.a1;have E:=T.less;have W:=T.fill;have R:=T.ih.2;generalize amt x L t (wayG B g) g=a at P aa H E W ⊢;refine k6 ?_;rw[show spl _ _=Ja ([],"counts",[.loc "raised",.loc "lowered",.loc "amount"]) from rfl,ub]
  (dsimp only[aL,Qa,aM,aB,aA,aC,aH,aE,aI,aD,aF,aJ,aK,bw,bo,aV,bO];refine⟨rfl,rfl,rfl,rfl,?_⟩)
  refine G.io<|pu e S.nd l T.inR T.inL ?_;refine n0 ?_;dsimp only[aP,aN,aD,oh,aF,Qa,aJ,aB,aA,aK,bp,bw,bo];rw[qM];dsimp only[cG];refine aY (ix R) ?_
  (dsimp only[eH];refine⟨rfl,?_⟩)
  rw[kG]
  (dsimp only[aF,Qa,aJ,aB,aA,aK];refine⟨rfl,?_⟩)
  rw[wK,vR,Qd,Qd,QA,eG (show(wayF B 17<|.c g).E.no<h from R),cB,lZ (show(wayF B 17<|.c g).E.no<h from R),oN];dsimp only[aL,Qa,aM,aB,aA,aF,aJ,aK];refine n0 ?_;dsimp only[aP,aN,aD,oh,aF,Qa,aJ,aB,aA,aK,bp,bw,bo];rw[pw];dsimp only[cG];refine aY (ix T.gw) ?_
  (dsimp only[eH];refine⟨rfl,?_⟩)
  rw[kG]
  (dsimp only[aF,Qa,aJ,aB,aA,aK];refine⟨rfl,?_⟩)
  rw[wK,vR,Qd,Qd,QA,eG T.gw,cB,lZ T.gw,oN];dsimp only[aL,Qa,aM,aB,aA,aF,aJ,aK];refine kn _ _ ?_ ⟨_,_,_,f,cv,cn,_,_,_,_,_,_,_,W,rfl,?_,P,rfl⟩
  ·exact zq (ztn A H E) hk
  ·exact zll (ztn A H E)<|zle (QU hk) (zs hf)
end
def setG{L:Type}(t:List (List L))(i j:Nat)(v:L):List (List L):=t.set i<|(rowAt t i).set j v
theorem Rect.setG{L:Type}{t:List (List L)}(R:Rect t h w)(hi:i<h){v:L}:Rect (setG t i j v) h w:=by
 refine⟨by rw[Vl.Internal.setG,Ww];exact R.len,λr T=> ?_,R.h1,R.h8,R.w1,R.w8⟩
 rcases List.mem_or_eq_of_mem_set T with q|rfl
 ·exact R.row r q
 ·rw[Ww];exact(R.at_ hi).2
theorem uI(R:Rect t h w)(hi:i<h)(E:j<w)(a b:Nat):cO (setG t i j v) a b=if(a,b)=(i,j) then v else cO t a b:=by
 have l:i<t.length:=by rw[R.len];exact hi
 have r:=(R.at_ hi).2;unfold cO rowAt setG;rw[KQ];by_cases T:i=a
 ·subst T;rw[Ua rfl,Ua l];show((rowAt t i).set j v)[b]?.getD Jb=_;rw[KQ];by_cases H:j=b
  ·subst H;rw[Ua rfl,Ua<|by exact zq E r.symm,Ua rfl];rfl
  ·rw[Y9 H,Y9 λq=>H (Prod.mk.inj q).2.symm];rfl
 ·rw[Y9 T,Y9 λq=>T (Prod.mk.inj q).1.symm]
section
variable{G:Gx}{cl cu:DCl}{Δ:DRho}
theorem tq(R:Rect t h w)(hx:Δ.get x=Ja (dC t,Jc))(hi:i<h)(N:j<w)
  (O:∀Q:D->DRho->Prop,Q (dO v) Δ->dwm G cl e Δ Q)(T:∀ (Q:DQ) X,Q (.int i) Jb->dwe G cl s Δ Q X)(Z:∀ (Q:DQ) X,Q (.int j) Jb->dwe G cl c Δ Q X)
  (k:dwss G cl cu r (Δ.put x (dC<|setG t i j v,Jc)) Q X):dwss G cl cu (.setIdx (.sub (.loc x) s) c e::r) Δ Q X:=by
 refine n0<|O _ ?_;rw[sY,kG,hx,aK];refine⟨rfl,T _ _ ⟨rfl,?_⟩⟩;rw[gD R hi,cG];refine Z _ _ ?_;rw[wK,vR,Qd,(R.at_ hi).2,eG N,cB];show dOE _ (Δ.get x);rw[hx,aK];show dOD _ (updp [.int i] (λo0=>Ja<|.list (((rowAt t i).map dO).set j (dO v))) (dC t));have u:updp [.int i] (λo0=>Ja<|.list (((rowAt t i).map dO).set j (dO v))) (dC t)=Ja (dC<|setG t i j v):=by
  show(place (t.map dR).length (i:Int)).bind (λH=>((t.map dR)[H]?).bind λx=>Wj (λy=>D.list<|(t.map dR).set H y)<|Ja (.list<|((rowAt t i).map dO).set j (dO v)))=_;rw[Qd,R.len,eG hi];show((t.map dR)[i]?).bind (λx=>Ja<|D.list ((t.map dR).set i (.list<|((rowAt t i).map dO).set j (dO v))))=_;rw[Qs,(R.at_ hi).1];show Ja (D.list<|(t.map dR).set i (.list<|((rowAt t i).map dO).set j (dO v)))=_;rw[<-YA (f:=dO),show D.list (Ky dO<|(rowAt t i).set j v)=dR ((rowAt t i).set j v) from rfl,<-YA];rfl
 rw[u,cG];exact k
end
def fcF(x:Pl->Int)(c:List (List (Option Int)))(ps:List Pl):List (List (Option Int)):=ps.foldl (λt p=>setG t p.1 p.2 (Ja (x p))) c
theorem tu{h w:Nat}{x:Pl->Int}:∀ {ps:List Pl} {c:List (List (Option Int))},Rect c h w->(∀p∈ps,p.1<h/\p.2<w)->Rect (fcF x c ps) h w/\∀a b,cO (fcF x c ps) a b=if(a,b)∈ps then Ja (x (a,b)) else cO c a b
 |[]=>λR o0=>⟨R,λa b=>rfl⟩
 |p::ps=>λR D=>by
  obtain⟨o,r⟩:=D p<|.head _;obtain⟨N,Y⟩:=tu (x:=x) (ps:=ps) (R.setG (j:=p.2) (v:=Ja<|x p) o) λq m=>D q<|.tail _ m;refine⟨N,λa b=>(Y a b).trans ?_⟩;rw[uI R o r];by_cases q:(a,b)∈ps
  ·rw[Ua q,Ua (.tail _ q)]
  ·rw[Y9 q];by_cases z:(a,b)=p
   ·rw[Ua z,Ua<|z▸ .head _,z]
   ·rw[Y9 z,Y9 λy=>(Qw.mp y).elim z q]
def tabV(c:List (List (Option Int)))(x:Pl->Int)(h w:Nat):List (List Int):=(Qc h).map λa=>(Qc w).map λb=>(cO c a b).getD (x (a,b))
theorem qv(R:Rect t h w):t=(Qc h).map λa=>(Qc w).map λb=>cO t a b:=by
 refine(tU R).trans (Qm λa T=> ?_);have l:=(R.at_<|Qf.mp T).2;refine List.ext_getElem (by rw[l,Qd,QA]) λi N p=> ?_;rw[Yo,Wt,cO,Qi N];rfl
theorem zH(R:Rect c h w)(x:Pl->Int):dC (fcF x c (psF c h w))=dT (tabV c x h w):=by
 obtain⟨N,p⟩:=tu (x:=x) (ps:=psF c h w) R (iL R).mem;have T:fcF x c (psF c h w)=(Qc h).map λa=>(Qc w).map λb=>Ja ((cO c a b).getD (x (a,b))):=by
  refine(qv N).trans (Qm λa H=>Qm λb o=> ?_);rw[p];by_cases q:(a,b)∈psF c h w
  ·rw[Ua q,(jA q).2.2];rfl
  ·rw[Y9 q]
   induction e:cO c a b with
   |some v=>rfl
   |none=>
    refine absurd (Qh.mpr ⟨allF_mem.mpr ⟨Qf.mp H,Qf.mp o⟩,?_⟩) q;show(!(cO c a b).isSome)=Jc;rw[e];rfl
 rw[T,tabV,dC,dT,QE,QE]
 congr 1
 refine Qm λa o0=> ?_;show dR _=dI _;rw[dR,dI,QE,QE];rfl
theorem nq(ps:List Pl):(ps.map pkey).map keyDd=ps.map dP:=by rw[QE];rfl
theorem y5{M:D->DRho->Prop}(a:E)(l:List E):dwm G cl (.sub a (.tup l)) Δ M=dwe G cl (.sub a (.tup l)) Δ (λd t=>t=Jb/\M d Δ) λo0 o0=>False:=rfl
section
variable{C:Cx}{mg mb:Jq->Option Jf}{n:Nat}{Q:D->Bool->Prop}{X:DX}
theorem ji(e:Env1 C G1 mg mb)(R:Rect c h w){x:Pl->Int}(T:Q (dT (tabV c x h w)) Jc):aR (aO C (n+1)) "with_counts" [(.tup [dC c,dI r,dI s],b),(dCt (psF c h w) x,V)] Q X:=by
 refine e.fn eO (br 22 rfl) rfl λcl cu P PX g=> ?_;dsimp only[eO];dsimp only[aZ,cb,bv];have S:=iL R;have l:(psF c h w).length<=64:=nF R.h8 R.w8;rw[<-zH R] at T;refine bl ?_;refine b6 rfl ?_;dsimp only[fsts,aC,aH,aW,aE,aI,aT,ct,aP,aN,aD,aF,Qa,aJ,aB,aA,aK,bR,tgl,bz,bI,bA,bE,dY,cG,bo,bC,cw];refine bG dR dR (λZ f K k=> ?_) ?_
 ·dsimp only[bq,cF,b8,aM,Qa,aL,aB,aA,bJ];dsimp only[elD]
  (dsimp only[bj,eQ,aC,aE,bW,aD,aJ,Qa,aF,aB,aA,aK,bo,sb,tgl];refine⟨rfl,?_⟩)
  rw[cP _ wH];exact k
 dsimp only[bB,aG,aL,Qa,aM,aB,aA];generalize psF c h w=I at S l T ⊢;refine dz rfl ?_
 (dsimp only[fsts,aC,aH,aW,aE,aI,aT,ct,bj,eQ,bW,aD,aF,Qa,aJ,aB,aA,aK,dy,AF,bu,bB,cw];refine⟨rfl,?_⟩)
 refine⟨⟨by rw[Qd];exact dB<|by exact zb2 l rfl,λq o=> ?_⟩,?_⟩
 ·obtain⟨y,o0,rfl⟩:=Ql.mp o;exact dB (show 2<=1000 by decide)
 rw[nq];refine cK dP (λi Δ=>∃u v,Δ=(Nb "view" b (.tup [dC c,dI r,dI s])<|Nb "counts" V (dCt I x)<|Nb "table" Jc (dC<|fcF x c (I.take i))<|No "row" u<|No "column" v<|[])) _ _ ⟨_,_,rfl⟩ ?_ ?_
 ·rintro j p Δ H ⟨u,v,rfl⟩ K m;have D:=QB H;obtain⟨d,o0⟩:=tu (x:=x) (ps:=I.take j) R λq o=>S.mem q<|Ys o;rw[show fcF x c (I.take<|j+1)=setG (fcF x c<|I.take j) p.1 p.2 (Ja<|x p) from gy _ c H] at m;generalize fcF x c (I.take j)=t at d m ⊢;obtain⟨a,U⟩:=S.mem p D;dsimp only[dP];dsimp only[gE,bz,cy,bA,cp,fJ,aL,Qa,aM,aB,aA,bJ];refine tq (i:=p.1) (j:=p.2) (v:=Ja<|x p) d rfl a U (λQ q=> ?_) (λQ X q=> ?_) (λQ X q=> ?_) ?_
  ·rw[y5]
   (dsimp only[aP,bK,fsts,dtup,aC,aH,aU,aE,aI,aV,aD,aF,Qa,aA,aB,aK,dy];refine⟨by decide,?_⟩)
   refine aY (cU b7 (show keyD (.tup [.int (p.1:Int),.int (p.2:Int)])=Ja (pkey p) from rfl) D) ?_
   (dsimp only[bw];refine⟨rfl,?_⟩)
   exact q
  ·dsimp only[aD,aF,Qa,aB,aA,aK,bw];exact q
  ·dsimp only[aD,aF,Qa,aA,aB,aK,bw];exact q
  ·dsimp only[aL,Qa,aB,aA];exact m _ ⟨_,_,rfl⟩
 ·rintro Δ ⟨u,v,rfl⟩;rw[Kj];refine gZ ?_;refine cZ ?_
  (dsimp only[cf,aL,Qa,aM,aB,aA,aF,aJ,aK,bI];refine⟨rfl,?_⟩)
  exact g.qr T
theorem AW{G:Gx}{cl cu:DCl}{Δ:DRho}{Q:bX}{X:DSX}{b h r:List S}{c:String}(U:G.full=Jc/\G.calm=Jc/\G.cs.contains c=Jc)
  (w:dwss G cl cu b Δ (donFl (λi=>dwss G cl cu r i Q X) Q) λe es i=>if G.sub e c then dwss G.un cu cu h i (donFl (λi=>dwss G cl cu r i Q X) Q) λo0 o0 o0=>False else False):
  dwss G cl cu (.try1 b c h::r) Δ Q X:=⟨U,w⟩
end
theorem get_mem{l:List Int}(h:k<l.length):l[k]?.getD 0∈l:=by rw[Qi h];exact Wo _
section
variable{C:Cx}{mg mb:Jq->Option Jf}{n:Nat}{Q:D->Bool->Prop}{X:DX}
end
theorem rl(F:Pl->Int)(h w:Nat):((allF h w).map F).sum=((Qc h).map λa=>((Qc w).map λb=>F (a,b)).sum).sum:=by
 induction h with
 |zero=>rfl
 |succ h i=>
  rw[mw,QD,WV,i,List.range_succ,QD,WV,QE];show _+_=_+(((Qc w).map λb=>F (h,b)).sum+0)
  rw[Kg];rfl
theorem gX(f g:Pl->Bool)(x:Pl->Int):∀l:List Pl,sumOn f (l.filter g) x=(l.map λp=>if g p then(if f p then x p else 0) else 0).sum
 |[]=>rfl
 |p::l=>by
  rw[Qo,QW,<-gX f g x l];by_cases h:g p=Jc
  ·rw[QZ h,cY,Ua h]
  ·rw[Ka h,Y9 h,Wh]
theorem oA{v:Nat->Int}{l:List Nat}(nd:l.Nodup)(o:q∈l):(l.map λi=>if i=q then v i else 0).sum=v q:=by
 rw[show(l.map λi=>if i=q then v i else 0)=l.map λi=>if q=i then v q else 0 from Qm λi o0=> ?_,mq nd,Ua o];by_cases e:i=q
 ·subst e;rw[Ua rfl]
 ·rw[Y9 e,Y9 λz=>e z.symm]
def hx(c:List (List (Option Int)))(x:Pl->Int)(a b:Nat):Int:=if !(cO c a b).isSome then x (a,b) else 0
section
variable{c:List (List (Option Int))}{r s:List Int}{h w:Nat}{x:Pl->Int}
theorem vX(T:a<h):rowS (psF c h w) x a=((Qc w).map λb=>hx c x a b).sum:=by
 rw[rowS,psF,gX,rl];rw[show((Qc h).map λY=>((Qc w).map λb=>if !(cO c Y b).isSome then(if decide (Y=a) then x (Y,b) else 0) else 0).sum)=(Qc h).map λY=>if Y=a then((Qc w).map λb=>hx c x Y b).sum else 0 from Qm λY o0=> ?_]
 ·exact oA (v:=λY=>((Qc w).map λb=>hx c x Y b).sum) Ko<|Qf.mpr T
 ·by_cases e:Y=a
  ·rw[Ua e];refine Ud Wn (Qm λb o0=> ?_);rw[Ua (Y6 e)];rfl
  ·rw[Y9 e];refine(Ud Wn<|Qm λb o0=> ?_).trans (h9<|Qc w);rw[show decide (Y=a)=Jd from Y7 e];split<;>rfl
theorem w4(R:b<w):colS (psF c h w) x b=((Qc h).map λa=>hx c x a b).sum:=by
 rw[colS,psF,gX,rl,oP (λa G=>if !(cO c a G).isSome then(if decide (G=b) then x (a,G) else 0) else 0)];rw[show((Qc w).map λG=>((Qc h).map λa=>if !(cO c a G).isSome then(if decide (G=b) then x (a,G) else 0) else 0).sum)=(Qc w).map λG=>if G=b then((Qc h).map λa=>hx c x a G).sum else 0 from Qm λG o0=> ?_]
 ·exact oA (v:=λG=>((Qc h).map λa=>hx c x a G).sum) Ko<|Qf.mpr R
 ·by_cases e:G=b
  ·rw[Ua e];refine Ud Wn (Qm λa o0=> ?_);rw[Ua (Y6 e)];rfl
  ·rw[Y9 e];refine(Ud Wn<|Qm λa o0=> ?_).trans (h9<|Qc h);rw[show decide (G=b)=Jd from Y7 e];split<;>rfl
end
noncomputable def stG(hi:Bool)(p:Pl):Nd:=bif hi then .c p.2 else .r p.1
noncomputable def glG(hi:Bool)(p:Pl):Nd:=bif hi then .r p.1 else .c p.2
abbrev cmG(ps:List Pl)(hi:Bool)(p:Pl)(x:Pl->Int):Bs:=bfsF (bn (Ja p) ps) x [stG hi p]
noncomputable def upR(hi:Bool)(p:Pl)(W:Way):List Pl:=bif hi then W.R++[p] else W.R
noncomputable def dnL(hi:Bool)(p:Pl)(W:Way):List Pl:=bif hi then W.L else W.L++[p]
def amG(hi:Bool)(p:Pl)(x:Pl->Int)(W:Way):Int:=lmin<|(dnL hi p W).map x
def nxG(hi:Bool)(p:Pl)(x:Pl->Int)(W:Way):Pl->Int:=incs (-amG hi p x W) (dnL hi p W)<|incs (amG hi p x W) (upR hi p W) x
noncomputable def cycF(ps:List Pl)(hi:Bool)(p:Pl):Nat->(Pl->Int)->(Pl->Int)
 |0,x=>x
 |k+1,x=>if glG hi p∈(cmG ps hi p x).1/\(hi=Jd->x p≠0) then cycF ps hi p k (nxG hi p x<|wayF (cmG ps hi p x) 17 (glG hi p)) else x
noncomputable def msG(R:Nat->Int)(hi:Bool)(p:Pl)(x:Pl->Int):Nat:=bif hi then(R p.1-x p).toNat else(x p).toNat
theorem ke{x:Pl->Int}(h:¬ (glG hi p∈(cmG ps hi p x).1/\(hi=Jd->x p≠0))):cycF ps hi p k x=x:=by
 induction k using Nat.casesOn with
 |zero=>rfl
 |succ k=>exact Y9 h
theorem nB{x:Pl->Int}(h:glG hi p∈(cmG ps hi p x).1/\(hi=Jd->x p≠0)):cycF ps hi p (k+1) x=cycF ps hi p k (nxG hi p x (wayF (cmG ps hi p x) 17 (glG hi p))):=Ua h
theorem kK(s:Bs):∀ (k:Nat) (y:Nd),(wayF s k y).R.length<=k/\(wayF s k y).L.length<=k
 |0=>λy=>⟨Qy _,Qy _⟩
 |k+1=>λy=>by
  induction h:s.2 y with
  |none=>rw[kY h];exact⟨QT _,QT _⟩
  |some e=>
   obtain⟨N,Y⟩:=kK s k e.1;rw[ly (z:=e.1) (p:=e.2) h]
   induction y.isR with
   |true=>exact⟨WA N,Kw Y⟩
   |false=>exact⟨Kw N,WA Y⟩
theorem rt(l:List Pl)(p:Pl)(i:Nat):cR (l++[p]) i=cR l i+ind (p.1=i):=by
 have:=nw p l i;unfold cR at this ⊢;rw[WX,Nat.add_comm,<-WX];exact this
theorem ry(l:List Pl)(p:Pl)(i:Nat):cC (l++[p]) i=cC l i+ind (p.2=i):=by
 have:=nG p l i;unfold cC at this ⊢;rw[WX,Nat.add_comm,<-WX];exact this
theorem nY(δ:Int)(R:List Pl)(p:Pl)(x:Pl->Int):incs δ (R++[p]) x p=incs δ R x p+δ:=by
 unfold incs;rw[List.foldl_append];exact bV _ _ _
theorem xv(a i:Nat):ind (Nd.r a= .r i)=ind (a=i):=by
 by_cases h:a=i
 ·rw[fA h,fA (h▸rfl)]
 ·rw[dA h,dA λq=>h (Nd.r.inj q)]
theorem xC(a i:Nat):ind (Nd.c a= .c i)=ind (a=i):=by
 by_cases h:a=i
 ·rw[fA h,fA (h▸rfl)]
 ·rw[dA h,dA λq=>h (Nd.c.inj q)]
theorem qb(a i:Nat):ind (Nd.r a= .c i)=0:=dA λq=>nomatch q
theorem tS(a i:Nat):ind (Nd.c a= .r i)=0:=dA λq=>nomatch q
section
variable{ps:List Pl}{h w:Nat}{R C:Nat->Int}{x:Pl->Int}{hi:Bool}{p:Pl}
theorem oy(S:Sz ps h w)(D:p∈ps):Bfs (bn (Ja p) ps) x [stG hi p] h w (cmG ps hi p x)/\∀z∈(cmG ps hi p x).1,∀e∈nbrs (bn (Ja p) ps) z,okE x z e.2=Jc->e.1∈(cmG ps hi p x).1:=by
 obtain⟨N,Y⟩:=S.mem p D;refine qf (λq o=>S.mem q (bn_mem.mp o).1) (Ki S.h8 S.w8) 17 0 _ (.start (Qx.mpr ⟨λq=>(bQ q),.nil⟩) λy W=> ?_) (λi z hi=>absurd hi<|Wd _) (QT _) (by decide);rw[Qj.mp W]
 induction hi with
 |true=>exact Qe _<|Ql.mpr ⟨_,Qf.mpr Y,rfl⟩
 |false=>exact Qk _<|Ql.mpr ⟨_,Qf.mpr N,rfl⟩
theorem xg(S:Sz ps h w)(F:Good ps h w R C (.tab x)){U L:List Pl}(Y:∀q∈U,q∈ps)(K:∀q∈L,q∈ps)(nd:L.Nodup)(P:0<=a)(l:∀q∈L,a<=x q)(r:∀i,cR U i=cR L i)(c:∀i,cC U i=cC L i):
  Good ps h w R C (.tab<|incs (-a) L (incs a U x)):=by
 have s:∀f:Pl->Bool,((U.countP f:Nat):Int)=(L.countP f:Nat)->sumOn f ps (incs (-a) L<|incs a U x)=sumOn f ps x:=λf e=>by
  rw[fE S.nd K,fE S.nd Y,Int.neg_mul,e];exact Int.add_neg_cancel_right _ _
 refine⟨λq o=> ?_,λi hi=>(s _<|r i).trans (F.2.1 i hi),λi hi=>(s _<|c i).trans (F.2.2 i hi)⟩;have N:=mL P (R:=U) (x:=x) q;by_cases m:q∈L
 ·rw[ov nd m];exact WJ<|QL (l q m) N
 ·rw[eR m];exact QL (F.1 q o) N
structure TurnG(ps:List Pl)(h w:Nat)(R C:Nat->Int)(hi:Bool)(p:Pl)(x:Pl->Int):Prop where
 gB:∃j:Nat,(cmG ps hi p x).1[j]? =Ja (glG hi p)
 inR:∀q∈upR hi p (wayF (cmG ps hi p x) 17<|glG hi p),q∈ps
 inL:∀q∈dnL hi p (wayF (cmG ps hi p x) 17<|glG hi p),q∈ps
 ne:dnL hi p (wayF (cmG ps hi p x) 17<|glG hi p)≠ []
 fe:Good ps h w R C (.tab<|nxG hi p x (wayF (cmG ps hi p x) 17<|glG hi p))
 ms:msG R hi p (nxG hi p x<|wayF (cmG ps hi p x) 17 (glG hi p))<msG R hi p x
theorem xZ(F:Good ps h w R C (.tab x))(D:p∈ps)(N:p.1<h):x p<=R p.1:=by
 rw[<-F.2.1 p.1 N];unfold rowS sumOn;have n:∀q∈ps.filter λq=>decide<|q.1=p.1,0<=x q:=λq o=>F.1 q (Qh.mp o).1;have m:p∈ps.filter λq=>decide (q.1=p.1):=Qh.mpr ⟨D,Y6 rfl⟩;generalize ps.filter (λq=>decide<|q.1=p.1)=l at n m
 induction l with
 |nil=>cases m
 |cons a l i=>
  rw[Qo,QW];have Y:=n a<|.head _;have z:=jP (f:=x) λq o=>n q<|.tail _ o;cases m with
  |head=>exact Ks z
  |tail _ m=>exact QL (i (λq o=>n q<|.tail _ o) m)<|Int.le_add_of_nonneg_left Y
theorem iZ(S:Sz ps h w)(F:Good ps h w R C (.tab x))(D:p∈ps)(P:glG hi p∈(cmG ps hi p x).1)(hx:hi=Jd->x p≠0):TurnG ps h w R C hi p x:=by
 obtain⟨b,o0⟩:=oy (x:=x) (hi:=hi) S D;obtain⟨j,H⟩:=Yr P;have T:=b.len;have M:=(QF.mp H).1;have W:=pj b 17 j _ H (by exact zll M<|zle T (zb2 (Ki S.h8 S.w8) rfl));generalize y:wayF (cmG ps hi p x) 17 (glG hi p)=V at W;have E:=Qj.mp W.e;have Q:p∉V.R:=λq=>(bn_mem.mp<|W.r p q).2 rfl;have L:p∉V.L:=λq=>(bn_mem.mp (W.l p q).1).2 rfl;have s:∀q∈V.R,q∈ps:=λq o=>(bn_mem.mp<|W.r q o).1;have K:∀q∈V.L,q∈ps:=λq o=>(bn_mem.mp (W.l q o).1).1;have sn:∀l:List Pl,(∀q∈l,q∈ps)->∀q∈l++[p],q∈ps:=λl T q o=>(Qr.mp o).elim (T q) λz=>by rw[Qj.mp z];exact D
 have r:=W.row;have c:=W.col;rw[E] at r c;have fin:dnL hi p V≠ []->(dnL hi p V).Nodup->(∀q∈dnL hi p V,q∈ps/\0<x q)->(∀q∈upR hi p V,q∈ps)->(∀i,cR (upR hi p V) i=cR (dnL hi p V) i)->(∀i,cC (upR hi p V) i=cC (dnL hi p V) i)->(1<=amG hi p x V->Good ps h w R C (.tab<|nxG hi p x V)->msG R hi p (nxG hi p x V)<msG R hi p x)->TurnG ps h w R C hi p x:=λX I n g d U t=>by
  have A:=ij (is:=(dnL hi p V).map x) λq=>X<|Wr.mp q;have B:1<=amG hi p x V:=by
   obtain⟨q,o,e⟩:=Ql.mp A.1;unfold amG;rw[<-e];exact(n q o).2
  have G:Good ps h w R C (.tab<|nxG hi p x V):=xg S F g (λq o=>(n q o).1) I (QL (by decide) B) (λq o=>A.2 _<|Ql.mpr ⟨q,o,rfl⟩) d U;refine⟨⟨j,H⟩,?_,?_,?_,?_,?_⟩<;>rw[y]
  ·exact g
  ·exact λq o=>(n q o).1
  ·exact X
  ·exact G
  ·exact t B G
 clear y
 induction hi with
 |true=>
  refine fin (λq=> ?_) W.nd (λq o=>⟨K q o,(W.l q o).2⟩) (sn _ s) (λi=> ?_) (λi=> ?_) λB G=> ?_
  ·have N:=c p.2;rw[show V.L=[] from q] at N;rw[show ind (glG Jc p=Nd.c p.2)=0 from qb _ _,show ind (stG Jc p=Nd.c p.2)=1 from fA rfl] at N;have Y:(0:Int)<=cC V.R p.2:=QS _;have J:cC V.R p.2-0=0-1:=N;rw[WF] at J;rw[J] at Y;exact absurd Y<|by decide
  ·have N:=r i;rw[show ind (stG Jc p=Nd.r i)=0 from tS _ _,show ind (glG Jc p=Nd.r i)=ind (p.1=i) from xv _ _] at N;show cR (V.R++[p]) i=cR V.L i;rw[rt];exact zg1 N
  ·have N:=c i;rw[show ind (glG Jc p=Nd.c i)=0 from qb _ _,show ind (stG Jc p=Nd.c i)=ind (p.2=i) from xC _ _] at N;show cC (V.R++[p]) i=cC V.L i;rw[ry];exact zg1 N
  ·have f:nxG Jc p x V p=x p+amG Jc p x V:=by
    show incs (-amG Jc p x V) V.L (incs (amG Jc p x V) (V.R++[p]) x) p=_;rw[eR L,nY,eR Q]
   have Y:=xZ G D (S.mem p D).1;show(R p.1-nxG Jc p x V p).toNat<(R p.1-x p).toNat;exact zg3 f B Y
 |false=>
  have hx:=hx rfl;have m:=F.1 p D;refine fin (λq=>by cases List.append_eq_nil_iff.mp q with|intro _ q=>exact nomatch q) (Qu.mpr ⟨W.nd,Qx.mpr ⟨λq=>(nomatch q),.nil⟩,λa Z b v q=>L<|by rw[Qj.mp v] at q;exact q▸Z⟩) (λq o=> ?_) s (λi=> ?_) (λi=> ?_) λB G=> ?_
  ·rcases Qr.mp o with z|z
   ·exact⟨K q z,(W.l q z).2⟩
   ·rw[Qj.mp z];exact⟨D,Int.lt_iff_le_and_ne.mpr ⟨m,Ne.symm hx⟩⟩
  ·have N:=r i;rw[show ind (glG Jd p=Nd.r i)=0 from tS _ _,show ind (stG Jd p=Nd.r i)=ind (p.1=i) from xv _ _] at N;show cR V.R i=cR (V.L++[p]) i;rw[rt];exact zg2 N
  ·have N:=c i;rw[show ind (stG Jd p=Nd.c i)=0 from qb _ _,show ind (glG Jd p=Nd.c i)=ind (p.2=i) from xC _ _] at N;show cC V.R i=cC (V.L++[p]) i;rw[ry];exact zg2 N
  ·have f:nxG Jd p x V p=x p+ -amG Jd p x V:=by
    show incs (-amG Jd p x V) (V.L++[p]) (incs (amG Jd p x V) V.R x) p=_;rw[nY,eR L,eR Q]
   have Y:=G.1 p D;show(nxG Jd p x V p).toNat<(x p).toNat;exact ztn (Int.lt_iff_le_and_ne.mpr ⟨m,Ne.symm hx⟩) B f
theorem uL(S:Sz ps h w)(D:p∈ps):∀ (k:Nat) (x:Pl->Int),Good ps h w R C (.tab x)->msG R hi p x<k->Good ps h w R C (.tab (cycF ps hi p k x))/\¬ (glG hi p∈(cmG ps hi p (cycF ps hi p k x)).1/\(hi=Jd->cycF ps hi p k x p≠0))
 |0=>λx o0 M=>absurd M<|Wd _
 |k+1=>λx F M=>by
  by_cases q:glG hi p∈(cmG ps hi p x).1/\(hi=Jd->x p≠0)
  ·have T:=iZ S F D q.1 q.2;rw[nB q];exact uL S D k _ T.fe<|zll T.ms (zs M)
  ·rw[ke q];exact⟨F,q⟩
theorem mD(S:Sz ps h w)(F:Good ps h w R C (.tab x))(D:p∈ps){pa pb:Nat->Bool}(c:∀q∈ps,q≠p->pa q.1=pb q.2\/x q=0)(N:pa p.1=Jc)(Y:pb p.2=Jd):
  x p=(((Qc h).filter pa).map R).sum-(((Qc w).filter pb).map C).sum:=by
 have T:(((Qc h).filter pa).map R).sum=sumOn (λq=>decide<|q.1∈(Qc h).filter pa) ps x:=by
  rw[<-dl (f:=(·.1)) (Ko.filter _)];exact Ud Wn<|Qm λi hi=>(F.2.1 i<|Qf.mp (Qh.mp hi).1).symm
 have j:(((Qc w).filter pb).map C).sum=sumOn (λq=>decide<|q.2∈(Qc w).filter pb) ps x:=by
  rw[<-dl (f:=(·.2)) (Ko.filter _)];exact Ud Wn<|Qm λi hi=>(F.2.2 i<|Qf.mp (Qh.mp hi).1).symm
 have m:∀q∈ps,decide (q.1∈(Qc h).filter pa)=pa q.1:=λq o=>by
  rw[Kn,Uc,Qh,Qf];exact⟨λz=>z.2,λz=>⟨(S.mem q o).1,z⟩⟩
 have M:∀q∈ps,decide (q.2∈(Qc w).filter pb)=pb q.2:=λq o=>by
  rw[Kn,Uc,Qh,Qf];exact⟨λz=>z.2,λz=>⟨(S.mem q o).2,z⟩⟩
 have k:sumOn (λq=>decide<|q.1∈(Qc h).filter pa) ps (upd x p<|x p+ -x p)=sumOn (λq=>decide<|q.2∈(Qc w).filter pb) ps (upd x p<|x p+ -x p):=by
  refine hU λq o=> ?_;by_cases e:q=p
  ·subst e;exact .inr<|(bV _ _ _).trans (Int.add_right_neg _)
  ·rw[m q o,M q o,ck _ _ e];exact c q o e
 rw[gC S.nd D,gC S.nd D,m p D,M p D,N,Y,Ua rfl,Y9 QC] at k;rw[T,j];exact zg4 k
theorem pL(S:Sz ps h w)(F:Good ps h w R C (.tab x))(D:p∈ps):stG hi p∈(cmG ps hi p x).1/\∀q∈ps,q≠p->(Nd.r q.1∈(cmG ps hi p x).1->Nd.c q.2∈(cmG ps hi p x).1)/\(decide (Nd.r q.1∈(cmG ps hi p x).1)=decide (Nd.c q.2∈(cmG ps hi p x).1)\/x q=0):=by
 obtain⟨b,c⟩:=oy (x:=x) (hi:=hi) S D;refine⟨b.has _<|.head _,λq o n=> ?_⟩;have Q:q∈bn (Ja p) ps:=bn_mem.mpr ⟨o,λz=>n (sj z).symm⟩;have K:Nd.r q.1∈(cmG ps hi p x).1->Nd.c q.2∈(cmG ps hi p x).1:=λr=>c _ r (.c q.2,q) (Ql.mpr ⟨q,Qh.mpr ⟨Q,Y6 rfl⟩,rfl⟩) rfl;refine⟨K,?_⟩
 rcases Int.lt_or_eq_of_le (F.1 q o) with z|z
 ·exact .inl<|decide_eq_decide.mpr ⟨K,λr=>c _ r (.r q.1,q) (Ql.mpr ⟨q,Qh.mpr ⟨Q,Y6 rfl⟩,rfl⟩)<|decide_eq_true z⟩
 ·exact .inr z.symm
end
abbrev dIn(ps:List Pl)(x:Pl->Int)(xs:List Nd):D:= .inst "Bounds" [dCt ps x,md Nd.key (nearG ps) xs]
theorem pi(a b:D):dfld G1 "counts" (.inst "Bounds" [a,b])=Ja a:=rfl
theorem rD(a b:D):dfld G1 "near" (.inst "Bounds" [a,b])=Ja b:=rfl
theorem kW(p:Pl):dsub (dP p) (.int 0)=Ja (.int p.1):=rfl
theorem kL(p:Pl):dsub (dP p) (.int 1)=Ja (.int p.2):=rfl
theorem tv{p:Pl}(h:p.1<8)(Y:p.2<8):dK (pkey p)=Jc:=by
 show(decide _&&decide _)=Jc;rw[Y6 ⟨QS _,Kf.mpr h⟩,Y6 ⟨QS _,Kf.mpr Y⟩];rfl
def endF(ps:List Pl)(R:Nat->Int)(hi:Bool)(p:Pl)(x:Pl->Int):Pl->Int:=cycF ps hi p (msG R hi p x+1) x
inductive EnK:Option Int->D->Prop
 |none:EnK Option.none .none
 |some (v:Int):EnK (Ja v) (.int v)
theorem Aj{d:D}(E:EnK e d){A B:Prop}(N:∀v,e=Ja v->d= .int v->A->B)(h:A):iT d=Jd/\cond (!d.isNone) B A:=by
 induction E with
 |none=>exact⟨rfl,h⟩
 |some v=>exact⟨rfl,N v rfl rfl h⟩
theorem cI{K:DRho->Prop}(h:K L):dwss G l c [] L (donFl K Q) X:=h
def leG(hi:Bool)(a b:Int):Prop:=bif hi then a<=b else b<=a
def EnR(hi:Bool)(p:Pl)(e:Option Int)(O y:Pl->Int):Prop:=y=O\/∃v,e=Ja v/\leG hi v (y p)/\leG hi (y p) (O p)
theorem EnR.no{O y:Pl->Int}(h:EnR hi p Jb O y):y=O:=h.elim id λ⟨_,q,_⟩=>ns q
theorem hW{R C:Nat->Int}(S:Sz ps h w)(D:p∈ps):∀ (k:Nat) (x:Pl->Int),Good ps h w R C (.tab x)->leG hi (x p) (cycF ps hi p k x p)
 |0=>λx o0=>by
  rcases hi with⟨⟩
  ·exact QX _
  ·exact QX _
 |k+1=>λx F=>by
  by_cases q:glG hi p∈(cmG ps hi p x).1/\(hi=Jd->x p≠0)
  ·have T:=iZ S F D q.1 q.2;have I:=hW (hi:=hi) S D k _ T.fe;have m:=T.ms;rw[nB q]
   rcases hi with⟨⟩
   ·exact QL I<|KI.mp λz=>Kc.mpr (Int.toNat_le_toNat<|WY z) m
   ·exact QL (KI.mp λz=>Kc.mpr (Int.toNat_le_toNat<|Int.sub_le_sub_left (WY z) (R p.1)) m) I
  ·rw[ke q]
   rcases hi with⟨⟩
   ·exact QX _
   ·exact QX _
inductive GlI(ps:List Pl)(h w:Nat)(R Cc:Nat->Int)(hi:Bool)(p:Pl)(O:Pl->Int)(sf gd dE:D)(b1 b2 b3:Bool)(k:Nat)(Δ:DRho):Prop
 |mk (x:Pl->Int) (f:Nat) (u1 u2 u3 u4 u5:Option (D×Bool)) (F:Good ps h w R Cc (.tab x)) (hk:msG R hi p x=k) (hf:k<f) (hO:cycF ps hi p f x=O)
  (e:Δ=(Nb "self" b1 sf<|Nb "place" b2 (dP p)<|Nb "enough" b3 dE<|Nb "counts" Jc (dCt ps x)<|Nb "goal" Jc gd<|No "came" u1<|No "raised" u2<|No "lowered" u3<|No "start" u4<|No "amount" u5<|[])):GlI ps h w R Cc hi p O sf gd dE b1 b2 b3 k Δ
section
variable{C:Cx}{mg mb:Jq->Option Jf}{n:Nat}{Q:D->Bool->Prop}{X:DX}
theorem iR(e:Env1 C G1 mg mb){ps:List Pl}{R c:Nat->Int}{L:Pl->Int}(S:Sz ps h w)(N:NearX ps xs)(l:ps.length<=64)(Z:Good ps h w R c (.tab L))(t:p∈ps){d V W:Bool}{dE:D}(I:EnK s dE)(m:∀y,EnR Jc p s (endF ps R Jc p L) y->Q (.tup [dCt ps y,dCm (cmG ps Jc p y)]) Jc):aR (aO C (n+2)) "Bounds.greatest" [(dIn ps L xs,d),(dP p,V),(dE,W)] Q X:=by
 refine e.fn df (br 47 rfl) rfl λcl cu PQ PX g=> ?_;dsimp only[df];dsimp only[aZ,cb,bv];have P:h+w<=16:=Ki S.h8 S.w8;refine bl ?_
 (dsimp only[bj,qA,bB,aG,aL,Qa,aM,aB,aA,aC,aE,bW,eh,aF,aJ,aK];refine⟨rfl,?_⟩)
 refine aY (pi _ _) ?_;dsimp only[vS];refine⟨⟨λq=>(by rw[Wr.mp q] at t;cases t),λk M=> ?_,cP (λp=>D.int<|L p) (λa=>rfl) _⟩,?_⟩
 ·obtain⟨q,o,rfl⟩:=Ql.mp M;obtain⟨E,Y⟩:=S.mem q o;exact tv (QJ E S.h8)<|QJ Y S.w8
 refine bl ?_;dsimp only[bK,fsts,dtup,aC,aH,aU,aW,aE,aI,aV,aT,aP,aN,aD,aF,Qa,aJ,aB,aA,aK,b9];refine gK ?_;dsimp only[bu];refine aY (kW p) ?_
 (dsimp only[bw,bu,bB,aG,aL,Qa,aM,aB,aA];refine⟨by decide,?_⟩)
 generalize U:endF ps R Jc p L=O at m;refine ig rfl (msG R Jc p L+1) ?_;refine fC (GlI ps h w R c Jc p O (dIn ps L xs) (dN<|.r p.1) dE d V W) ?_ _ (msG R Jc p L) _ (QN _) ⟨L,_,_,_,_,_,_,Z,rfl,QN _,U,rfl⟩;rintro k r ⟨x,f,A,u2,u3,u4,u5,F,M,z,U,rfl⟩ K i;clear Z;dsimp only[ce,bt,aA];obtain⟨f,rfl⟩:∃B,f=B+1:=⟨f-1,by exact zpr z⟩
 obtain⟨b,o0⟩:=oy (x:=x) (hi:=Jc) S t;have T:=iZ (hi:=Jc) S F t;refine bl ?_
 (dsimp only[aQ,flags,aC,aH,aW,aE,aI,aT,aD,aF,Qa,aJ,aB,aA,aK,bH,fsts,dnew,aU,aV,bK,dtup,aP,aN,b9,dy,aS,eh];refine⟨rfl,?_⟩)
 refine aY (rD _ _) ?_;dsimp only[dy,aS];refine gq ?_;dsimp only[bu];refine aY (kL p) ?_
 (dsimp only[bw,bu,aG];refine⟨by decide,by decide,?_⟩)
 refine g.hc<|jT (ban:=Ja p) (st:=[.c p.2]) e N S.mem S.h8 S.w8 (Qx.mpr ⟨λq=>(bQ q),.nil⟩) (λy u=>b.val y<|b.has y u) ?_;dsimp only[aA,dy,bB,aG,aL,Qa,aM,aB];refine cg ?_;dsimp only[cA,bt,aA,cq,aX,aD,aF,Qa,aJ,aB,aK,aP,dq,eF];rw[tt,f9,pe,nU du];refine rP (λE=> ?_) λE=> ?_
 ·rw[ke λq=>E q.1] at U;refine cZ ?_
  (dsimp only[dU,cX,aU,dX,aV,cf,aL,Qa,aM,aB,aA,aF,aJ,aK,dW];refine⟨rfl,rfl,by decide,?_⟩)
  exact g.qr<|m _ (.inl U)
 refine Aj I (λv hv G H=> ?_) ?_
 ·subst G;refine aY (cU b7 (cW p) t) ?_;dsimp only[qj];refine cM (λY=> ?_) λo0=>H;refine cZ ?_
  (dsimp only[dU,cX,aU,dX,aV,cf,aL,Qa,aM,aB,aA,aF,aJ,aK,dW];refine⟨rfl,rfl,by decide,?_⟩)
  exact g.qr<|m _ (.inr ⟨v,hv,Y,U▸hW S t _ _ F⟩)
 have T:=T E λq=>Bool.noConfusion q;rw[nB (hi:=Jc) ⟨E,λq=>Bool.noConfusion q⟩] at U;obtain⟨j,J⟩:=T.gB;refine cI ?_;refine c7 rfl ?_
 (dsimp only[aQ,flags,aC,aH,aW,aE,aI,aT,aD,aF,Qa,aJ,aB,aA,aK,dy,aS];refine⟨rfl,?_⟩)
 refine g.hc<|uw (y:= .r p.1) e b P J ?_;dsimp only[aA,bR,tgl,bz,bI,bA,bE,aB,aG,bB,rM,aL,Qa,aM,bJ];refine bl ?_
 (dsimp only[bj,nH,aC,aE,wk,bB,aG,aL,Qa,aM,aA,aB];refine⟨rfl,?_⟩)
 refine b6 rfl ?_;dsimp only[fsts,dp,aC,aH,aW,aE,aI,aT,ct,aD,aF,Qa,aJ,aB,aA,aK,bo,bC,cw];refine bG dP (λp=> .int (x p)) (λq o K k=> ?_) ?_
 ·dsimp only[bq,cF,b8,aM,Qa,aL,aB,aA,bJ];dsimp only[elD];dsimp only[aP,aD,aJ,Qa,aF,aB,aA,aK,dy];refine aY (cU b7 (cW q)<|T.inL q o) ?_;dsimp only[bw];exact k
 refine gx (d3 _ _) ?_;refine⟨λq=>T.ne<|Wr.mp q,?_⟩;refine k6 ?_;rw[show spl _ _=Ja ([],"counts",[.bin .add (.loc "raised") (.list [.loc "place"]),.loc "lowered",.loc "amount"]) from rfl,ub]
 (dsimp only[aL,Qa,aB,aA,aC,aH,aE,aI,aD,aF,aK,bw,bo,bp,bH,fsts,dnew,aU,aW,aV,aT,jc,tgl,bO];refine⟨rfl,rfl,rfl,by decide,?_⟩)
 refine⟨dB<|by rw[QG,Qd];exact zb2 (Kl (kK _ 17 _).1 1) rfl,?_⟩;rw[jr dP,cP dP dg]
 (dsimp only[aA];refine⟨rfl,?_⟩)
 refine g.io<|pu e S.nd l T.inR T.inL ?_;exact i _ _ (zq T.ms M) ⟨_,f,_,_,_,_,_,T.fe,rfl,zll (zq T.ms M)<|zs z,U,rfl⟩
theorem ml(e:Env1 C G1 mg mb){ps:List Pl}{R c:Nat->Int}{L:Pl->Int}(S:Sz ps h w)(N:NearX ps xs)(l:ps.length<=64)(Z:Good ps h w R c (.tab L))(U:p∈ps){d V W:Bool}{dE:D}(I:EnK i dE)(m:∀y,EnR Jd p i (endF ps R Jd p L) y->Q (.tup [dCt ps y,dCm (cmG ps Jd p y)]) Jc):aR (aO C (n+2)) "Bounds.least" [(dIn ps L xs,d),(dP p,V),(dE,W)] Q X:=by
 refine e.fn em (br 48 rfl) rfl λcl cu PQ PX g=> ?_;dsimp only[em];dsimp only[aZ,cb,bv];have s:h+w<=16:=Ki S.h8 S.w8;refine bl ?_
 (dsimp only[bj,qA,bB,aG,aL,Qa,aM,aB,aA,aC,aE,bW,eh,aF,aJ,aK];refine⟨rfl,?_⟩)
 refine aY (pi _ _) ?_;dsimp only[vS];refine⟨⟨λq=>(by rw[Wr.mp q] at U;cases U),λk M=> ?_,cP (λp=>D.int<|L p) (λa=>rfl) _⟩,?_⟩
 ·obtain⟨q,o,rfl⟩:=Ql.mp M;obtain⟨E,Y⟩:=S.mem q o;exact tv (QJ E S.h8)<|QJ Y S.w8
 refine bl ?_;dsimp only[bK,fsts,dtup,aC,aH,aU,aW,aE,aI,aV,aT,aP,aN,aD,aF,Qa,aJ,aB,aA,aK,b9];refine gq ?_;dsimp only[bu];refine aY (kL p) ?_
 (dsimp only[bw,bu,bB,aG,aL,Qa,aM,aB,aA];refine⟨by decide,?_⟩)
 generalize P:endF ps R Jd p L=O at m;refine ig rfl (msG R Jd p L+1) ?_;refine fC (GlI ps h w R c Jd p O (dIn ps L xs) (dN<|.c p.2) dE d V W) ?_ _ (msG R Jd p L) _ (QN _) ⟨L,_,_,_,_,_,_,Z,rfl,QN _,P,rfl⟩;rintro k r ⟨x,f,u1,u2,u3,u4,u5,F,M,z,P,rfl⟩ K t;clear Z;dsimp only[ce,bt,aA];obtain⟨f,rfl⟩:∃B,f=B+1:=⟨f-1,by exact zpr z⟩
 obtain⟨b,o0⟩:=oy (x:=x) (hi:=Jd) S U;have T:=iZ (hi:=Jd) S F U;refine bl ?_
 (dsimp only[aQ,flags,aC,aH,aW,aE,aI,aT,aD,aF,Qa,aJ,aB,aA,aK,bH,fsts,dnew,aU,aV,bK,dtup,aP,aN,b9,dy,aS,eh];refine⟨rfl,?_⟩)
 refine aY (rD _ _) ?_;dsimp only[dy,aS];refine gK ?_;dsimp only[bu];refine aY (kW p) ?_
 (dsimp only[bw,bu,aG];refine⟨by decide,by decide,?_⟩)
 refine g.hc<|jT (ban:=Ja p) (st:=[.r p.1]) e N S.mem S.h8 S.w8 (Qx.mpr ⟨λq=>(bQ q),.nil⟩) (λy u=>b.val y<|b.has y u) ?_;dsimp only[aA,dy,bB,aG,aL,Qa,aM,aB];have fin:¬ (glG Jd p∈(cmG ps Jd p x).1/\(Jd=Jd->x p≠0))->Q (.tup [dCt ps x,dCm (cmG ps Jd p x)]) Jc:=λq=>by
  rw[ke q] at P;exact m _<|.inl P
 refine cg ?_;dsimp only[cA,bt,aA,cq,aX,aD,aF,Qa,aJ,aB,aK,aP,dq,c4,deq,aN,eF];rw[tt,f9,pe,nU du];refine rP (λE=> ?_) λE=> ?_
 ·refine cZ ?_
  (dsimp only[dU,cX,aU,dX,aV,cf,aL,Qa,aM,aB,aA,aF,aJ,aK,dW];refine⟨rfl,rfl,by decide,?_⟩)
  exact g.qr<|fin λq=>E q.1
 refine aY (cU b7 (cW p) U) ?_
 (dsimp only[bY];refine⟨⟨rfl,rfl⟩,?_⟩)
 refine cM (λY=> ?_) λY=> ?_
 ·refine cZ ?_
  (dsimp only[dU,cX,aU,dX,aV,cf,aL,Qa,aM,aB,aA,aF,aJ,aK,dW];refine⟨rfl,rfl,by decide,?_⟩)
  exact g.qr<|fin λq=>q.2 rfl Y
 refine Aj I (λv hv G A=> ?_) ?_
 ·subst G;refine aY (cU b7 (cW p) U) ?_;dsimp only[lb];refine cM (λY=> ?_) λo0=>A;refine cZ ?_
  (dsimp only[dU,cX,aU,dX,aV,cf,aL,Qa,aM,aB,aA,aF,aJ,aK,dW];refine⟨rfl,rfl,by decide,?_⟩)
  exact g.qr<|m _ (.inr ⟨v,hv,Y,P▸hW S U _ _ F⟩)
 have T:=T E λo0=>Y;rw[nB ⟨E,λo0=>Y⟩] at P;obtain⟨j,J⟩:=T.gB;refine cI ?_;refine c7 rfl ?_
 (dsimp only[aQ,flags,aC,aH,aW,aE,aI,aT,aD,aF,Qa,aJ,aB,aA,aK,dy,aS];refine⟨rfl,?_⟩)
 refine g.hc<|uw (y:= .c p.2) e b s J ?_;dsimp only[aA,bR,tgl,bz,bI,bA,bE,aB,aG,bB,rM,aL,Qa,aM,bJ];have H:=(kK (cmG ps Jd p x) 17<|.c p.2).2;refine bl ?_
 (dsimp only[bj,nH,aC,aE,wk,bB,aG,aL,Qa,aM,aA,aB];refine⟨rfl,?_⟩)
 refine b6 rfl ?_
 (dsimp only[fsts,dp,aC,aH,aW,aE,aI,aT,ct,bp,bH,dnew,aU,aV,aD,aF,Qa,aJ,aB,aA,aK,bo,jc,tgl,cw];refine⟨by decide,?_⟩)
 refine⟨dB<|by rw[QG,Qd];exact zb2 (Kl H 1) rfl,?_⟩;rw[jr dP];refine bG dP (λp=> .int (x p)) (λq o K k=> ?_) ?_
 ·dsimp only[bq,cF,b8,aM,Qa,aL,aB,aA,bJ];dsimp only[elD];dsimp only[aP,aD,aJ,Qa,aF,aB,aA,aK,dy];refine aY (cU b7 (cW q)<|T.inL q o) ?_;dsimp only[bw];exact k
 refine gx (d3 _ _) ?_;refine⟨λq=>T.ne<|Wr.mp q,?_⟩;refine k6 ?_;rw[show spl _ _=Ja ([],"counts",[.loc "raised",.bin .add (.loc "lowered")<|.list [.loc "place"],.loc "amount"]) from rfl,ub]
 (dsimp only[aL,Qa,aB,aA,aC,aH,aE,aI,aD,aF,aK,bw,bp,bH,fsts,dnew,aU,aW,aV,aT,bo,jc,tgl,bO];refine⟨rfl,rfl,rfl,by decide,?_⟩)
 refine⟨dB<|by rw[QG,Qd];exact zb2 (Kl H 1) rfl,?_⟩;rw[jr dP,cP dP dg]
 (dsimp only[aA];refine⟨rfl,?_⟩)
 refine g.io<|pu e S.nd l T.inR T.inL ?_;exact t _ _ (zq T.ms M) ⟨_,f,_,_,_,_,_,T.fe,rfl,zll (zq T.ms M)<|zs z,P,rfl⟩
end
inductive PlK(h w:Nat):D->Bool->Prop
 |nt {d:D} (e:disi G1 d ["tuple"]=Ja Jd):PlK h w d Jd
 |tl {l:List D} (e:decide ((l.length:Int)=2)=Jd):PlK h w (.tup l) Jd
 |bb:PlK h w (.tup [.bool Jd,.bool Jd]) Jd
 |ii (a b:Int):PlK h w (.tup [.int a,.int b]) (decide (a>=0)&&(decide (b>=0)&&(decide (a<h)&&decide (b<w))))
inductive PlA(c:List (List (Option Int)))(h w:Nat):D->Option Pl->Prop
 |bad {d:D} {v:Bool} (k:PlK h w d v) (e:v=Jc->∃q,d=dP q/\q∉psF c h w):PlA c h w d Option.none
 |ok {p:Pl} (hp:p∈psF c h w):PlA c h w (dP p) (Ja p)
theorem AU{p:Pl}(N:p.1<h)(Y:p.2<w):PlK h w (dP p) Jc:=by
 have:=PlK.ii (h:=h) (w:=w) p.1 p.2;rw[Y6 (show(p.1:Int)>=0 from QS _),Y6 (show(p.2:Int)>=0 from QS _),Y6<|Kf.mpr N,Y6 (Kf.mpr Y)] at this;exact this
theorem rB(ps:List Pl)(q:Pl):((ps.map dP).any λd=>D.eqv d (dP q))=decide (q∈ps):=by
 rw[List.any_map,Kn,Ke,Uc]
 constructor
 ·rintro ⟨x,hx,h⟩;have h:D.eqv (dP x) (dP q)=Jc:=h;rw[gJ,Uc] at h;exact h▸hx
 ·exact λi=>⟨q,i,c5 _⟩
theorem tE{a b:D}(h:c=Jc->a.atom=v)(p:c=Jd->b.atom=v):(cond c a b).atom=v:=by
 induction c with
 |true=>exact h rfl
 |false=>exact p rfl
theorem Am{K:Bool->Prop}(e:t=Ja v)(k:K v):oB K t:=by subst e;exact k
theorem tL{M:D->DRho->Prop}(a i:E):dwm G c (.sub a i) L M=dwe G c (.sub a i) L (λd t=>t=Jb/\M d L) λo0 o0=>False:=rfl
def lowD(ps:List Pl)(h w:Nat)(p:Pl)(x:Pl->Int):D:=cond (decide<|x p>0) (.tup [.int (x p),dNs<|numF Jc h (cmG ps Jd p x).1,dNs (numF Jd w (cmG ps Jd p x).1)])<|.tup [.int 0,.list [],.list []]
def higD(ps:List Pl)(h w:Nat)(p:Pl)(x:Pl->Int):D:= .tup [.int (x p),dNs ((Qc h).filter λk=> !decide (Nd.r k∈(cmG ps Jc p x).1)),dNs ((Qc w).filter λk=> !decide (Nd.c k∈(cmG ps Jc p x).1))]
theorem zgw1{y x w H L:Int}(h:y-x>=w)(a:y<=H)(b:L<=x):w<=H-L:=QL h<|Int.sub_le_sub a b
theorem zgw2{y x w:Int}(h:x+w<=y):y-x>=w:=Int.le_sub_left_of_add_le h
theorem zgw3{z y w L:Int}(h:z<=y-w)(b:L<=z):w<=y-L:=Int.le_sub_right_of_add_le<|KS L w▸Int.add_le_of_le_sub_right (QL b h)
theorem zgw4{z y w:Int}(h:z<=y-w):w<=y-z:=zgw3 h<|QX z
section
variable{C:Cx}{mg mb:Jq->Option Jf}{n:Nat}{Q:D->Bool->Prop}{X:DX}
theorem uz(e:Env1 C G1 mg mb)(k:Q (.bool Jd) Jc):aR (aO C (n+1)) "is_count" [(.bool v,b)] Q X:=by
 refine e.fn eC (br 5 rfl) rfl λl c P PX g=> ?_;dsimp only[eC];dsimp only[aZ,cb,bv];refine bL ?_
 (dsimp only[cq,aX,aG,aN,aD,aF,Qa,aA,aK,bN,bt,cN,z8,gW,cm,aB,Ai];refine⟨rfl,rfl,?_⟩)
 exact g.qr k
theorem qo(e:Env1 C G1 mg mb)(R:Rect c h w){d:D}(hd:PlK h w d v)(k:Q (.bool v) Jc):aR (aO C (n+2)) "is_place" [(d,b),(dC c,b')] Q X:=by
 refine e.fn gP (br 18 rfl) rfl λcl cu PQ PX gg=> ?_;dsimp only[gP];dsimp only[aZ,cb,bv];refine cg ?_
 (dsimp only[cA,bt,aA,bN,aQ,flags,aC,aH,aE,aI,aP,aN,aD,aF,Qa,aB,aK,aX,fD,deq,bj,bS,bY,bW,cN];refine⟨rfl,?_⟩)
 induction hd with
 |nt h1=>
  refine Am h1 ?_;dsimp only[j5,aA];refine bL ?_;dsimp only[ce,aG];exact gg.qr k
 |tl h1=>
  (dsimp only[bR,tgl,iJ,cB,iM,gW,cm,aB];refine⟨rfl,⟨rfl,rfl⟩,?_⟩)
  rw[h1];dsimp only[j5,aA];refine bL ?_;dsimp only[ce,aG];exact gg.qr k
 |bb=>
  (dsimp only[bR,tgl,bz,yb,bA,cp,aA,gk,cG,Bc,aG,dZ,iJ,aU,aV,cB,iM,gW,cm,aB];refine⟨rfl,⟨rfl,rfl⟩,?_⟩)
  rw[show decide (((0+1+1:Nat):Int)=2)=Jc from rfl]
  (dsimp only[cm,aB];refine⟨rfl,?_⟩)
  refine gg.hc<|uz e ?_;dsimp only[bt,j5,aA];refine bL ?_;dsimp only[ce,aG];exact gg.qr k
 |ii x y=>
  (dsimp only[bR,tgl,bz,cy,bA,cp,aA,gk,cG,bw,aG,dZ,iJ,aU,aV,cB,iM,gW,cm,aB];refine⟨rfl,⟨rfl,rfl⟩,?_⟩)
  rw[show decide (((0+1+1:Nat):Int)=2)=Jc from rfl]
  (dsimp only[cm,aB];refine⟨rfl,?_⟩)
  refine gg.hc<|ir e ?_;dsimp only[bt];refine rP (λh1=> ?_) λh1=> ?_
  ·rw[Y7 h1] at k;refine bL ?_;dsimp only[ce,aG];exact gg.qr k
  rw[Y6 h1] at k;refine⟨rfl,?_⟩;refine gg.hc<|ir e ?_;dsimp only[bt];refine rP (λh2=> ?_) λh2=> ?_
  ·rw[Y7 h2] at k;refine bL ?_;dsimp only[ce,aG];exact gg.qr k
  rw[Y6 h2] at k;refine bL ?_
  (dsimp only[cq,aX,aG,bj,bS,aC,aE,bW,aP,aN,aD,aF,Qa,aA,aB,aK,gk,cG,qi,bt,cE,cB,dZ];refine⟨rfl,?_⟩)
  rw[Qd,R.len];refine cM (λh3=> ?_) λh3=> ?_
  ·rw[Y6 h3] at k;refine⟨rfl,?_⟩;refine aY (gD (i:=0) R<|QJ Nat.zero_lt_one R.h1) ?_;dsimp only[cE,cB];rw[Qd,(R.at_<|QJ Nat.zero_lt_one R.h1).2];exact gg.qr k
  ·rw[Y7 h3] at k;exact gg.qr k
theorem yy(e:Env1 C G1 mg mb)(K:ClsC C cls8){ps:List Pl}{x:Pl->Int}(h:ps.length<=64)(k:∀xs,NearX ps xs->Q (dIn ps x xs) Jc):aR (aO C (n+3)) "Bounds" [(dCt ps x,Jc)] Q X:=by
 refine xa (c:=cls8) (a1:="counts") (e2:= .call "near_of" [.bi .list [.loc "counts"]]) e.g (todoE e.g e.x) K rfl rfl (by decide) ?_
 (dsimp only[aQ,flags,aC,aH,aW,aE,aI,aT,bj,eQ,bW,aD];refine⟨rfl,rfl,?_⟩)
 refine⟨⟨by rw[Qd];exact dB<|by exact zb2 h rfl,λq o=> ?_⟩,?_⟩
 ·obtain⟨y,o0,rfl⟩:=Ql.mp o;exact dB (show 2<=1000 by decide)
 rw[nq];refine pM (n:=n) e h λxs N=> ?_;exact⟨rfl,k xs N⟩
theorem Ao(e:Env1 C G1 mg mb)(K:ClsC C cls8)(V:VOK c r s h w){d:D}(hd:PlA c h w d o)(kb:o=Jb->X "BadPlace" [])
  (kt:∀p x xs,o=Ja p->d=dP p->p∈psF c h w->outV c r s h w= .tab x->NearX (psF c h w) xs->Q (dIn (psF c h w) x xs) Jc)
  (kx:∀p pa pb,o=Ja p->outV c r s h w= .no pa pb->X "NoTable" [.hole,.hole]):aR (aO C<|n+5) "bounds_at" [(.tup [dC c,dI r,dI s],b),(d,b')] Q X:=by
 refine e.fn f5 (br 23 rfl) rfl λcl cu PQ PX gg=> ?_;dsimp only[f5];dsimp only[aZ,cb,bv];refine j9 ?_
 (dsimp only[aQ,flags,aC,aH,aE,aI,aD,aF,Qa,aB,aA,aK,bR,tgl,bz,bI,bA,bE,aS];refine⟨rfl,?_⟩)
 refine gg.hc<|qc e V ?_;have okp:D.okds 40 ((psF c h w).map dP)=Jc:=cj dP (λp=>rfl) _;have rs:o=Jb->dwss G1 cl cu [.raise "BadPlace" [.str "no hidden place"]] (Nb "view" b (D.tup [dC c,dI r,dI s])<|Nb "place" b' d<|[]) (donFl (λΔ1=>dwss G1 cl cu [.ret (.call "Bounds" [.call "counts_of" [.loc "view"]])] Δ1 PQ PX) PQ) PX:=λq=>by
  refine mP ⟨rfl,rfl,.inl rfl⟩ ?_;dsimp only[fsts,aC,aH,aE,aI,vQ];exact gg.qx<|kb q
 refine cg ?_
 induction hd with
 |@bad d v hk hv=>
  (dsimp only[cA,bt,aA,aX,eF,aQ,flags,aC,aH,aE,aI,aP,aN,aD,aF,Qa,aB,aK,bR,tgl,bz,bI,bA,bE,dY,cG,bo,aS,bN];refine⟨rfl,?_⟩)
  refine gg.hc<|qo e V.R hk ?_;dsimp only[bt];refine jk (λh1=> ?_) λh1=>rs rfl;obtain⟨q,rfl,hq⟩:=hv h1;refine⟨rfl,?_⟩;refine gg.hc<|iS e V.R ?_;rw[jo];refine⟨⟨pR q,okp⟩,?_⟩;rw[rB,Y7 hq];exact rs rfl
 |@ok p hp=>
  obtain⟨p1,p2,o0⟩:=jA hp
  (dsimp only[cA,bt,aA,aX,eF,aQ,flags,aC,aH,aE,aI,aP,aN,aD,aF,Qa,aB,aK,bR,tgl,bz,bI,bA,bE,dY,cG,bo,aS,bN];refine⟨rfl,?_⟩)
  refine gg.hc<|qo e V.R (AU p1 p2) ?_
  (dsimp only[bt,cm,aB];refine⟨rfl,?_⟩)
  refine gg.hc<|iS e V.R ?_;rw[jo];refine⟨⟨pR p,okp⟩,?_⟩;rw[rB,Y6 hp];dsimp only[cm,aB];refine bL ?_
  (dsimp only[aQ,flags,aC,aH,aW,aE,aI,aT,aD,aF,Qa,aB,aA,aK,bR,tgl,bz,bI,bA,bE,aS,bC,ch,bO];refine⟨rfl,rfl,?_⟩)
  refine gg.hc (pV e V (λx hx=> ?_) λpa pb hx=>gg.qx<|kx p pa pb rfl hx);dsimp only[aA,dy,aG,bu,bC];exact gg.hc<|yy e K (nF V.R.h8 V.R.w8) λxs N=>gg.qr<|kt p x xs rfl rfl hp hx N
theorem yk(e:Env1 C G1 mg mb)(K:ClsC C cls8)(V:VOK c r s h w){d:D}(v:PlA c h w d o)(P:o=Jb->X "BadPlace" [])
  (t:∀p x,o=Ja p->outV c r s h w= .tab x->Q (.tup [dT (tabV c (endF (psF c h w) (r1F c r) Jd p x) h w),dT (tabV c (endF (psF c h w) (r1F c r) Jc p x) h w)]) Jc)
  (k:∀p pa pb,o=Ja p->outV c r s h w= .no pa pb->X "NoTable" [.hole,.hole]):aR (aO C<|n+6) "ends" [(.tup [dC c,dI r,dI s],b),(d,F)] Q X:=by
 refine e.fn m8 (br 24 rfl) rfl λM u i PX g=> ?_;dsimp only[m8];dsimp only[aZ,cb,bv];have G:Good (psF c h w) h w (r1F c r) (r2F c s) (outV c r s h w):=pC (iL V.R) _ _ _ _ (fill0 V)<|QN _;refine bl ?_
 (dsimp only[aQ,flags,aC,aH,aW,aE,aI,aT,aD,aF,Qa,aJ,aB,aA,aK,bR,tgl,bz,bI,bA,bE,aS];refine⟨rfl,?_⟩)
 refine g.hc (Ao e K V v (λq=>g.qx<|P q) (λp x H T I U hx N=> ?_) λp pa pb T hx=>g.qx<|k p pa pb T hx);subst I;rw[hx] at G;dsimp only[aA,gr,tgl,bz,dW,bA,bE,aB,bB,aG,aL,Qa,aM];have S:=iL V.R;have l:=nF (c:=c) V.R.h8 V.R.w8;refine bl ?_
 (dsimp only[aP,aN,bZ,aH,aW,aC,aE,aI,aT,eT,aG,bu,aD,aF,Qa,aJ,aB,aA,aK,eA,gr,tgl,bz,dW,bA,bE,aS];refine⟨rfl,rfl,?_⟩)
 refine g.hc (ml e S N l G U .none λy W=> ?_);rw[W.no];dsimp only[aA,bR,tgl,bz,dW,bA,bE,aB,dZ,cG,dy,bB,aG,aL,Qa,aM];refine bl ?_
 (dsimp only[aP,aN,bZ,aH,aW,aC,aE,aI,aT,eT,aG,bu,aD,aF,Qa,aJ,aB,aA,aK,eA,gr,tgl,bz,dW,bA,bE,aS];refine⟨rfl,rfl,?_⟩)
 refine g.hc (iR e S N l G U .none λy W=> ?_);rw[W.no];dsimp only[aA,bR,tgl,bz,dW,bA,bE,aB,dZ,cG,dy,bB,aG,aL,Qa,aM];refine bL ?_
 (dsimp only[bK,fsts,dtup,aC,aH,aU,aW,aE,aI,aV,aT,aQ,flags,aD,aF,Qa,aA,aB,aK,dy,aS,bC,bR,tgl,bz,bI,bA,bE,ch,ej,bO];refine⟨rfl,?_⟩)
 refine g.hc<|ji e V.R ?_
 (dsimp only[aA,bo,bu];refine⟨rfl,?_⟩)
 refine g.hc<|ji e V.R ?_
 (dsimp only[aA,bo,bu,aG];refine⟨by decide,?_⟩)
 exact g.qr<|t p x T hx
theorem tY(e:Env1 C G1 mg mb){ps:List Pl}{R c:Nat->Int}{L:Pl->Int}(S:Sz ps h w)(N:NearX ps xs)(l:ps.length<=64)(F:Good ps h w R c (.tab L))(D:p∈ps){a V z O:Bool}
  (q:Q (.tup [lowD ps h w p (endF ps R Jd p L),higD ps h w p (endF ps R Jc p L)]) Jc):aR (aO C<|n+3) "Bounds.walls" [(dIn ps L xs,a),(dP p,V),(.int h,z),(.int w,O)] Q X:=by
 refine e.fn f_Bounds_walls (br 50 rfl) rfl λM f P PX g=> ?_;dsimp only[f_Bounds_walls];dsimp only[aZ,cb,bv];have U:h+w<=16:=Ki S.h8 S.w8;refine c7 rfl ?_
 (dsimp only[bZ,aH,aW,aC,aE,aI,aT,eT,aG,bu,aD,aF,Qa,aJ,aB,aA,aK,eA,gr,tgl,bz,dW,bA,bE,aS];refine⟨rfl,rfl,?_⟩)
 refine g.hc (ml e S N l F D .none λy W=> ?_);rw[W.no];dsimp only[aA,bR,tgl,bz,dW,bA,bE,aB,aG,bB,fJ,aL,Qa,aM,bJ];generalize endF ps R Jd p L=x at q ⊢;obtain⟨B,o0⟩:=oy (x:=x) (hi:=Jd) S D;have Z:=B.len;have fin:∀d u o,d=lowD ps h w p x->dwss G1 M f (f_Bounds_walls.b.drop 3) (Nb "self" a (dIn ps L xs)<|Nb "place" V (dP p)<|Nb "many_rows" z (.int h)<|Nb "many_columns" O (.int w)<|No "counts" u<|No "came" o<|Nb "low" Jc d<|No "rows" Jb<|No "columns" Jb<|[]) P PX:=λd u o H=>by
  dsimp only[f_Bounds_walls,Yu];have A:d.atom=Jd:=by
   rw[H];unfold lowD;exact tE (λo0=>rfl) λo0=>rfl
  rw[<-H] at q;clear H;refine c7 rfl ?_
  (dsimp only[bZ,aH,aW,aC,aE,aI,aT,eT,aG,bu,aD,aF,Qa,aJ,aB,aA,aK,eA,gr,tgl,bz,dW,bA,bE,aS];refine⟨rfl,rfl,?_⟩)
  refine g.hc (iR e S N l F D .none λy W=> ?_);rw[W.no];dsimp only[aA,bR,tgl,bz,dW,bA,bE,aB,aG,bB,fJ,aL,Qa,aM,bJ];generalize endF ps R Jc p L=y at q ⊢;unfold higD at q;refine bl ?_;refine cx rfl ?_;dsimp only[fsts,aC,aH,aW,aE,aI,aT,aD,aF,Qa,aJ,aB,aA,aK,bw,bu,g7,g8];refine⟨rg S.h8,fU (λ(k:Nat)=> .int (k:Int)) (λk=> !decide (Nd.r k∈(cmG ps Jc p y).1)) (λi t=> ?_) ?_⟩
  ·dsimp only[bq,cF,b8,aM,Qa,aL,aB,aA,bJ];refine⟨λT Y=> ?_,λo0 K k=> ?_⟩
   ·dsimp only[tstD];dsimp only[aX,bt,eF,aD,aJ,Qa,aF,aB,aA,aK,bK,fsts,dtup,aC,aH,aU,aE,aI,aV,b9];refine gK ?_;refine⟨by decide,?_⟩;rw[tt,show keyD (.tup [.str "row",.int i])=Ja (Nd.key<|.r i) from rfl,pe,nU du];exact Y
   ·dsimp only[elD];dsimp only[aD,aJ,Qa,aF,aB,aA,aK,bw];exact k
  dsimp only[bB,aG,aL,Qa,aM,aB,aA];refine bl ?_;refine cx rfl ?_;dsimp only[fsts,aC,aH,aW,aE,aI,aT,aD,aF,Qa,aJ,aB,aA,aK,bw,bu,g7,g8];refine⟨rg S.w8,fU (λ(k:Nat)=> .int (k:Int)) (λk=> !decide (Nd.c k∈(cmG ps Jc p y).1)) (λi t=> ?_) ?_⟩
  ·dsimp only[bq,cF,b8,aM,Qa,aL,aB,aA,bJ];refine⟨λT Y=> ?_,λo0 K k=> ?_⟩
   ·dsimp only[tstD];dsimp only[aX,bt,eF,aD,aJ,Qa,aF,aB,aA,aK,bK,fsts,dtup,aC,aH,aU,aE,aI,aV,b9];refine gq ?_;refine⟨by decide,?_⟩;rw[tt,show keyD (.tup [.str "column",.int i])=Ja (Nd.key<|.c i) from rfl,pe,nU du];exact Y
   ·dsimp only[elD];dsimp only[aD,aJ,Qa,aF,aB,aA,aK,bw];exact k
  dsimp only[bB,aG,aL,Qa,aM,aA,aB];refine cZ ?_;dsimp only[dU,cX,aU,dX,aV,cf,aL,Qa,aB,aA,aF,aK];rw[A]
  (dsimp only[aB];refine⟨rfl,?_⟩)
  rw[tL];dsimp only[aL,Qa,aA,aB,aF,aK,bI,aP,aD,dy];refine aY (cU b7 (cW p) D) ?_
  (dsimp only[bw];refine⟨rfl,rfl,rfl,by decide,by decide,?_⟩)
  exact g.qr q
 refine bl ?_
 (dsimp only[bK,fsts,dtup,aC,aH,aU,aW,aE,aI,aV,aT,bH,dnew,bu,aN,bB,aG,aL,Qa,aM,aB,aA];refine⟨by decide,by decide,by decide,?_⟩)
 refine cg ?_;dsimp only[aX,bt,aN,aP,aD,aF,Qa,aJ,aB,aA,aK];refine aY (cU b7 (cW p) D) ?_;dsimp only[j4];refine cM (λE=> ?_) λE=> ?_
 ·refine bl ?_;dsimp only[bK,fsts,dtup,aC,aH,aU,aW,aE,aI,aV,aT,aQ,flags,b9,aD,aF,Qa,aJ,aB,aA,aK,dy,aS,aP];refine aY (cU b7 (cW p) D) ?_
  (dsimp only[bw,bu];refine⟨rfl,?_⟩)
  refine gK ?_;dsimp only[aG,bu,bC,ch,bO];refine g.hc<|lE (b:=Jc) (m:=h) e B.nd (by exact zle Z U) (λy W r=>(lH<|B.val y W).1 r) ?_
  (dsimp only[aA,bo,bu];refine⟨rfl,?_⟩)
  refine gq ?_;dsimp only[aG,bu,bC,ch,bO];refine g.hc<|lE (b:=Jd) (m:=w) e B.nd (by exact zle Z U) (λy W r=>(lH<|B.val y W).2 r) ?_
  (dsimp only[aA,bo,bu,bB,aG,aL,Qa,aM,aB];refine⟨by decide,?_⟩)
  refine fin _ _ _ ?_;unfold lowD;rw[Y6 E];rfl
 ·refine fin _ _ _ ?_;unfold lowD;rw[Y7 E];rfl
theorem lU(e:Env1 C G1 mg mb)(hi:1<=i)(k:Q .none Jc):aR (aO C (n+2)) "need_number" [(.int i,b)] Q X:=by
 refine e.fn eP (br 10 rfl) rfl λl c P PX g=> ?_;dsimp only[eP];dsimp only[aZ,cb,bv];refine cg ?_
 (dsimp only[cA,bt,aA,aX,c4,deq,aN,aD,aF,Qa,aK,bY,bN,aQ,flags,aC,aH,aE,aI,bw,aG];refine⟨rfl,?_⟩)
 refine g.hc<|ir e ?_;dsimp only[bt];rw[Y6 (show i>=0 from QL (by decide) hi)]
 (dsimp only[cm,aB];refine⟨⟨rfl,rfl⟩,?_⟩)
 rw[Y7 (λq:i=0=>by rw[q] at hi;exact absurd hi<|by decide)];exact g.qn k
def gwF(ps:List Pl)(R:Nat->Int)(x:Pl->Int)(wd:Int)(p:Pl):Bool:=decide<|endF ps R Jc p x p-endF ps R Jd p x p<wd
theorem rQ(e:Env1 C G1 mg mb){ps:List Pl}{R u:Nat->Int}{x:Pl->Int}(S:Sz ps h w)(N:NearX ps xs)(l:ps.length<=64)(F:Good ps h w R u (.tab x))(D:p∈ps){wd:Int}
  (k:Q (.bool<|gwF ps R x wd p) Jc):aR (aO C<|n+3) "Bounds.is_given_away" [(dIn ps x xs,b),(dP p,V),(.int wd,r)] Q X:=by
 refine e.fn cz (br 49 rfl) rfl λM j i PX g=> ?_;dsimp only[cz];dsimp only[aZ,cb,bv];have m:endF ps R Jd p x p<=x p:=hW (hi:=Jd) S D _ x F;have B:x p<=endF ps R Jc p x p:=hW (hi:=Jc) S D _ x F;unfold gwF at k;generalize f:endF ps R Jc p x=H at k B;generalize K:endF ps R Jd p x=L at k m;refine bl ?_;dsimp only[aP,aD,aF,Qa,aJ,aB,aA,aK,eh];refine aY (pi _ _) ?_;dsimp only[dy];refine aY (cU b7 (cW p) D) ?_;dsimp only[bw,bB,aG,aL,Qa,aM,aB,aA];refine bl ?_
 (dsimp only[aP,aD,aF,Qa,aJ,aB,aA,aK,aN,bZ,aH,aW,aC,aE,aI,aT,bp,bw,dD,aG,bu,eA,gr,tgl,bz,dW,bA,bE,aS];refine⟨rfl,rfl,?_⟩)
 refine g.hc (iR e S N l F D (.some _) λy W=> ?_);rw[f] at W;dsimp only[aA,bR,tgl,bz,dW,bA,bE,aB,dZ,cG,dy];refine aY (cU b7 (cW p) D) ?_;dsimp only[bw,bB,aG,aL,Qa,aM,aA,aB];refine cg ?_;dsimp only[aX,bt,aD,aF,Qa,aB,aA,aK,bp,bw,eH,qj];have t:y p<=H p:=W.elim (λq=>q▸QX _) λ⟨_,_,_,q⟩=>q;refine cM (λE=> ?_) λE=> ?_
 ·rw[Y7 (KI.mpr<|zgw1 E t m)] at k;refine bL ?_;dsimp only[ce,aG];exact g.qr k
 have P:y=H:=W.elim id λ⟨v,c,Z,_⟩=>absurd (sj c▸Z:x p+wd<=y p) λq=>E<|zgw2 q;subst P;refine cI ?_;refine bL ?_
 (dsimp only[aX,aG,aD,aF,Qa,aB,aA,aK,bp,aP,aN,bZ,aH,aW,aC,aE,aI,aT,bw,eH,bu,eA,gr,tgl,bz,dW,bA,bE,aS];refine⟨rfl,rfl,?_⟩)
 refine g.hc (ml e S N l F D (.some _) λz T=> ?_);rw[K] at T;dsimp only[aA,bR,tgl,bz,dW,bA,bE,aB,dZ,cG,dy];refine aY (cU b7 (cW p) D) ?_;dsimp only[eH,qi]
 rcases T with rfl|⟨v,c,Z,o⟩
 ·exact g.qr k
 ·have Z:z p<=y p-wd:=sj c▸Z;have o:L p<=z p:=o;rw[Y7 (KI.mpr<|zgw3 Z o)] at k;rw[Y7 (KI.mpr<|zgw4 Z)];exact g.qr k
end
theorem jb{f g:Pl->Bool}{x:Pl->Int}:∀ {ps:List Pl},(∀p∈ps,0<=x p)->(∀p∈ps,f p=Jc->g p=Jc\/x p=0)->sumOn f ps x<=sumOn g ps x
 |[]=>λo0 o0=>QX _
 |q::ps=>λi h=>by
  rw[cY,cY];refine Int.add_le_add ?_ (jb (λp D=>i p<|.tail _ D) λp D=>h p<|.tail _ D);have M:=i q<|.head _;have z1:=h q<|.head _
  induction j:f q with
  |false=>
   induction g q with
   |false=>exact QX _
   |true=>exact M
  |true=>
   rcases z1 j with z|z
   ·rw[z];exact QX _
   ·rw[z]
    induction g q with
    |false=>exact QX _
    |true=>exact QX _
section
variable{ps:List Pl}{h w:Nat}{R C:Nat->Int}{x y:Pl->Int}{hi:Bool}{p:Pl}
theorem s8(S:Sz ps h w)(F:Good ps h w R C (.tab y))(pa pb:Nat->Bool):(((Qc h).filter pa).map R).sum-(((Qc w).filter pb).map C).sum=sumOn (λq=>pa q.1) ps y-sumOn (λq=>pb q.2) ps y:=by
 have e:(((Qc h).filter pa).map R).sum=sumOn (λq=>decide<|q.1∈(Qc h).filter pa) ps y:=by
  rw[<-dl (f:=(·.1)) (Ko.filter _)];exact Ud Wn<|Qm λi hi=>(F.2.1 i<|Qf.mp (Qh.mp hi).1).symm
 have m:(((Qc w).filter pb).map C).sum=sumOn (λq=>decide<|q.2∈(Qc w).filter pb) ps y:=by
  rw[<-dl (f:=(·.2)) (Ko.filter _)];exact Ud Wn<|Qm λi hi=>(F.2.2 i<|Qf.mp (Qh.mp hi).1).symm
 rw[e,m]
 congr 1
 ·refine hU λq o=> .inl ?_;rw[Kn,Uc,Qh,Qf];exact⟨λz=>z.2,λz=>⟨(S.mem q o).1,z⟩⟩
 ·refine hU λq o=> .inl ?_;rw[Kn,Uc,Qh,Qf];exact⟨λz=>z.2,λz=>⟨(S.mem q o).2,z⟩⟩
theorem zc1{a b x:Int}(h:a+ -x<=b+0):a-b<=x:=Int.sub_left_le_of_le_add<|Int.le_add_of_sub_right_le (by rw[Kg,<-Kt] at h;exact h)
theorem zc2{a b x:Int}(h:b+0<=a+ -x):x<=a-b:=Int.le_sub_left_of_add_le<|by rw[Kg,<-Kt] at h;exact Int.add_le_of_le_sub_right h
theorem uS(S:Sz ps h w)(F:Good ps h w R C (.tab y))(D:p∈ps){pa pb:Nat->Bool}(N:pa p.1=Jc)(Y:pb p.2=Jd):
  ((∀q∈ps,q≠p->pa q.1=Jc->pb q.2=Jc)->(((Qc h).filter pa).map R).sum-(((Qc w).filter pb).map C).sum<=y p)/\((∀q∈ps,q≠p->pb q.2=Jc->pa q.1=Jc)->y p<=(((Qc h).filter pa).map R).sum-(((Qc w).filter pb).map C).sum):=by
 rw[s8 S F pa pb];have k:=gC (f:=λq=>pa q.1) (x:=y) (p:=p) (δ:= -y p) S.nd D;have U:=gC (f:=λq=>pb q.2) (x:=y) (p:=p) (δ:= -y p) S.nd D;rw[N,Ua rfl] at k;rw[Y,Y9 QC] at U;have u:upd y p (y p+ -y p) p=0:=(bV _ _ _).trans (Int.add_right_neg _);have n:∀q∈ps,0<=upd y p (y p+ -y p) q:=λq o=>by
  by_cases e:q=p
  ·rw[e,u];exact QX _
  ·rw[ck _ _ e];exact F.1 q o
 refine⟨λc=> ?_,λc=> ?_⟩
 ·have z:=jb n (f:=λq=>pa q.1) (g:=λq=>pb q.2) λq o j=>by
   by_cases e:q=p
   ·exact .inr<|e▸u
   ·exact .inl<|c q o e j
  rw[k,U] at z;exact zc1 z
 ·have z:=jb n (f:=λq=>pb q.2) (g:=λq=>pa q.1) λq o j=>by
   by_cases e:q=p
   ·exact .inr<|e▸u
   ·exact .inl<|c q o e j
  rw[k,U] at z;exact zc2 z
theorem ql{q:Prop}[Decidable q](h:q):(!decide q)=Jd:=by rw[Y6 h];rfl
theorem oJ{q:Prop}[Decidable q](h:¬q):(!decide q)=Jc:=by rw[Y7 h];rfl
theorem vK(S:Sz ps h w)(F:Good ps h w R C (.tab x))(D:p∈ps)(E:¬ (glG hi p∈(cmG ps hi p x).1/\(hi=Jd->x p≠0)))(H:Good ps h w R C (.tab y)):leG hi (y p) (x p):=by
 obtain⟨b,c⟩:=pL (hi:=hi) S F D
 induction hi with
 |false=>
  show x p<=y p;by_cases i:x p>0
  ·have O:Nd.c p.2∉(cmG ps Jd p x).1:=λq=>E ⟨q,λo0 z=>by rw[z] at i;exact absurd i<|Int.lt_irrefl 0⟩;have e:=Y6 (p:=Nd.r p.1∈(cmG ps Jd p x).1) b;have m:=Y7 (p:=Nd.c p.2∈(cmG ps Jd p x).1) O;rw[mD S F D (pa:=λk=>decide<|Nd.r k∈(cmG ps Jd p x).1) (pb:=λk=>decide<|Nd.c k∈(cmG ps Jd p x).1) (λq o n=>(c q o n).2) e m];exact(uS S H D e m).1 λq o n z=>Y6<|(c q o n).1 (Y8 z)
  ·exact QL (KI.mp i)<|H.1 p D
 |true=>
  show y p<=x p;have O:Nd.r p.1∉(cmG ps Jc p x).1:=λq=>E ⟨q,λz=>tf z⟩;have e:=oJ (q:=Nd.r p.1∈(cmG ps Jc p x).1) O;have m:=ql (q:=Nd.c p.2∈(cmG ps Jc p x).1) b;rw[mD S F D (pa:=λk=> !decide (Nd.r k∈(cmG ps Jc p x).1)) (pb:=λk=> !decide (Nd.c k∈(cmG ps Jc p x).1)) (λq o n=>(c q o n).2.imp (λz=>Ud (!·) z) id) e m];refine(uS S H D e m).2 λq o n z=>oJ λy=> ?_;rw[ql ((c q o n).1 y)] at z;exact ft z
theorem zM(S:Sz ps h w){pa pb:Nat->Bool}(N:Good ps h w R C (.no pa pb))(F:Good ps h w R C (.tab y)):False:=by
 have z:=N.2;rw[s8 S F pa pb] at z;exact absurd (Int.lt_of_sub_pos z)<|KI.mpr (jb F.1 λq o f=> .inl (N.1 q o f))
end
theorem ve(l:List Nat):D.okd 39 (dNs l)=Jc:=by rw[eS];exact cj _ (λa=>f7 _ _) _
section
variable{C:Cx}{mg mb:Jq->Option Jf}{n:Nat}{Q:D->Bool->Prop}{X:DX}
theorem wq(e:Env1 C G1 mg mb){r s:List Int}(R:Rect c h w)(f:r.length=h)(E:s.length=w){p:Pl}(t:p∈psF c h w){pa pb:Nat->Bool}(S:pa p.1=Jc)(B:pb p.2=Jd)
  (J:∀q∈psF c h w,(hi=Jc->pb q.2=Jc->pa q.1=Jc)/\(hi=Jd->q≠p->pa q.1=Jc->pb q.2=Jc))(hv:v=(((Qc h).filter pa).map (r1F c r)).sum-(((Qc w).filter pb).map (r2F c s)).sum)(k:Q (.bool Jc) Jc):
  aR (aO C<|n+4) "_law_fence" [(.tup [dC c,dI r,dI s],b),(dP p,V),(.tup [.int v,dNs<|(Qc h).filter pa,dNs ((Qc w).filter pb)],O),(.bool hi,Y)] Q X:=by
 refine e.fn f__law_fence (br 42 rfl) rfl λM W y PX g=> ?_;dsimp only[f__law_fence];dsimp only[aZ,cb,bv];refine cg ?_
 (dsimp only[cA,bt,aA,bN,aQ,flags,aC,aH,aE,aI,aP,aN,aD,aF,Qa,aJ,aB,aK,bR,tgl,bz,cy,bI,bA,bE,cp,dY,cG,bw,aG,aX,fD,deq,bj,bS,bY,bW,iJ,aU,aV,cB,cN,iM,gW,cm];refine⟨rfl,rfl,⟨rfl,rfl⟩,?_⟩)
 rw[show decide (((0+1+1+1:Nat):Int)=3)=Jc from rfl]
 (dsimp only[cm,aB];refine⟨rfl,?_⟩)
 refine g.hc<|jq e ?_;dsimp only[bt,cm,aB];refine c7 rfl ?_;dsimp only[aD,aF,Qa,aJ,aB,aA,aK,bR,tgl,bz,cy,bI,bA,bE,cp,aS,fR,fQ,fO,fK,gE,fP,yb,gn,cJ,fN,fM,rM,aL,aM,bJ];refine cg ?_
 (dsimp only[cA,bt,aA,bN,aQ,flags,aC,aH,aE,aI,bj,bS,aG,bW,aP,aN,aD,aF,Qa,aJ,aB,aK,jU,cG,cE,cB,bo,aS,jI];refine⟨rfl,rfl,?_⟩)
 rw[Qd,f];refine g.hc<|ie e R.h8 ?_
 (dsimp only[bt,cm,aB];refine⟨rfl,rfl,?_⟩)
 rw[Qd,E];refine g.hc<|ie e R.w8 ?_;dsimp only[bt,cm,aB];obtain⟨I,p2,o0⟩:=jA t;have o:∀l:List Nat,D.okds 40 (l.map λ(k:Nat)=>D.int (k:Int))=Jc:=λl=>cj _ (λa=>f7 _ _) _;have fin:∀d,dwss G1 M W (f__law_fence.b.drop 4) (Nb "_law_view_here" b (.tup [dC c,dI r,dI s])<|Nb "_law_place" V (dP p)<|Nb "_law_shut" d (.tup [.int v,dNs<|(Qc h).filter pa,dNs ((Qc w).filter pb)])<|Nb "_law_high" Y (.bool hi)<|Nb "_law_number" Jd (.int v)<|Nb "_law_rows" Jd (dNs<|(Qc h).filter pa)<|Nb "_law_columns" Jd (dNs<|(Qc w).filter pb)<|No "_law_row" Jb<|No "_law_column" Jb<|[]) y PX:=λd=>by
  dsimp only[f__law_fence,Yu];refine cg ?_;dsimp only[cA,bt,aA,aX,i6,aD,aF,Qa,aJ,aB,aK,aP,aN,eF];refine aY (kW p) ?_;rw[jo];refine⟨⟨rfl,o _⟩,?_⟩;rw[iA,Y6 (Qh.mpr ⟨Qf.mpr I,S⟩)];dsimp only[cm,aB];refine aY (kL p) ?_;rw[jo];refine⟨⟨rfl,o _⟩,?_⟩;rw[iA,Y7 (λq=>by rw[(Qh.mp q).2] at B;exact ft B.symm)];dsimp only[aB];refine dz rfl ?_
  (dsimp only[fsts,aC,aH,aW,aE,aI,aT,ct,aQ,flags,aD,aF,Qa,aJ,aB,aA,aK,bR,tgl,bz,bI,bA,bE,aS,bC,ch,bO];refine⟨rfl,?_⟩)
  refine g.hc<|nV e R ?_;dsimp only[cw,aA,bo,bu,bB];refine cK dP (λo0 L=>∃u Z,L=(Nb "_law_view_here" b (.tup [dC c,dI r,dI s])<|Nb "_law_place" V (dP p)<|Nb "_law_shut" d (.tup [.int v,dNs<|(Qc h).filter pa,dNs ((Qc w).filter pb)])<|Nb "_law_high" Y (.bool hi)<|Nb "_law_number" Jd (.int v)<|Nb "_law_rows" Jd (dNs<|(Qc h).filter pa)<|Nb "_law_columns" Jd (dNs<|(Qc w).filter pb)<|No "_law_row" u<|No "_law_column" Z<|[])) _ _ ⟨_,_,rfl⟩ ?_ ?_
  ·rintro j q L x ⟨u,Z,rfl⟩ K m;have x:=QB x;obtain⟨F,G,o0⟩:=jA x;obtain⟨c1,i⟩:=J q x;dsimp only[dP];dsimp only[gE,bz,cy,bA,cp,fJ,aL,Qa,aM,aB,aA,bJ];have A:decide (q.1∈(Qc h).filter pa)=pa q.1:=by
    rw[Kn,Uc,Qh,Qf];exact⟨λz=>z.2,λz=>⟨F,z⟩⟩
   have P:decide (q.2∈(Qc w).filter pb)=pb q.2:=by
    rw[Kn,Uc,Qh,Qf];exact⟨λz=>z.2,λz=>⟨G,z⟩⟩
   have m:=m _ ⟨Ja (.int q.1,Jc),Ja (.int q.2,Jc),rfl⟩;refine cg ?_;dsimp only[cq,aX,bt,eF,aD,aF,Qa,aB,aA,aK,i6];refine i5 (λU=> ?_) λU=> ?_
   ·subst U;rw[jo];refine⟨⟨rfl,o _⟩,?_⟩;rw[iA,P];refine i5 (λH=> ?_) λH=> ?_
    ·rw[jo];refine⟨⟨rfl,o _⟩,?_⟩;rw[iA,A,c1 rfl H];dsimp only[cm,aB];refine cg ?_;dsimp only[cq,aX,bt,fD,deq,aD,aF,Qa,aB,aA,aK,bK,fsts,dtup,aC,aH,aU,aE,aI,aV,eF,i6,bN,cm];exact m
    ·refine cg ?_;dsimp only[cq,aX,bt,fD,deq,aD,aF,Qa,aB,aA,aK,bK,fsts,dtup,aC,aH,aU,aE,aI,aV,eF,i6,bN,cm];exact m
   ·subst U;refine cg ?_;dsimp only[cq,aX,bt,fD,deq,aD,aF,Qa,aB,aA,aK,bK,fsts,dtup,aC,aH,aU,aE,aI,aV,eF,i6,bN,j5];rw[jo];refine⟨⟨rfl,o _⟩,?_⟩;rw[iA,A];refine i5 (λT=> ?_) λT=> ?_
    ·rw[jo];refine⟨⟨rfl,o _⟩,?_⟩;rw[iA,P];refine jk (λH=> ?_) λH=> ?_
     ·exact m
     ·have N:q=p:=Classical.byContradiction λz=>by rw[i rfl z T] at H;exact ft H.symm
      refine⟨by decide,⟨rfl,rfl⟩,?_⟩;rw[show D.eqv (D.tup [.int (q.1:Int),.int (q.2:Int)]) (D.tup [.int (p.1:Int),.int (p.2:Int)])=decide (q=p) from gJ q p,Y6 N];dsimp only[cm,aB];exact m
    ·exact m
  ·rintro L ⟨u,Z,rfl⟩;refine gZ ?_;refine bL ?_
   (dsimp only[aX,aG,c4,deq,aQ,flags,aC,aH,aE,aI,aD,aF,Qa,aJ,aB,aA,aK,bo,aS,bR,tgl,bz,bI,bA,bE];refine⟨rfl,?_⟩)
   refine g.hc<|An e R f E (λa T=>Qf.mp (Qh.mp T).1) (λa T=>Qf.mp (Qh.mp T).1) ?_
   (dsimp only[bY];refine⟨⟨rfl,rfl⟩,?_⟩)
   rw[Y6 hv];exact g.qr k
 refine cg ?_;dsimp only[cq,aX,bt,c4,deq,bK,fsts,dtup,aC,aH,aU,aE,aI,aV,bH,dnew,aN,aD,aF,Qa,aJ,aB,aA,aK,bN];refine jk (λU=>fin _) λU=> ?_;refine⟨by decide,by decide,by decide,?_⟩;refine⟨⟨?_,rfl⟩,?_⟩
 ·rw[wf,jH,jH,jH,uu,f7,ve,ve];rfl
 refine i5 (λU=> ?_) λU=>fin _;refine bL ?_;dsimp only[ce,aG];exact g.qr k
theorem uk(e:Env1 C G1 mg mb){r s:List Int}(R:Rect c h w)(T:r.length=h)(E:s.length=w){d:D}(k:Q (.bool Jc) Jc):
  aR (aO C<|n+4) "_law_fence" [(.tup [dC c,dI r,dI s],b),(d,V),(.tup [.int 0,.list [],.list []],W),(.bool Jd,U)] Q X:=by
 refine e.fn f__law_fence (br 42 rfl) rfl λl u P PX g=> ?_;dsimp only[f__law_fence];dsimp only[aZ,cb,bv];have nil:∀m,D.list []=dNs ((Qc m).filter λo0=>Jd):=λm=>by rw[Yk.mpr λo0 o0=>QC];rfl
 refine cg ?_
 (dsimp only[cA,bt,aA,bN,aQ,flags,aC,aH,aE,aI,aP,aN,aD,aF,Qa,aJ,aB,aK,bR,tgl,bz,cy,bI,bA,bE,cp,dY,cG,bw,aG,aX,fD,deq,bj,bS,bY,bW,iJ,aU,aV,cB,cN,iM,gW,cm];refine⟨rfl,rfl,⟨rfl,rfl⟩,?_⟩)
 rw[show decide (((0+1+1+1:Nat):Int)=3)=Jc from rfl]
 (dsimp only[cm,aB];refine⟨rfl,?_⟩)
 refine g.hc<|jq e ?_;dsimp only[bt,cm,aB];refine c7 rfl ?_;dsimp only[aD,aF,Qa,aJ,aB,aA,aK,bR,tgl,bz,cy,bI,bA,bE,cp,aS,fR,fQ,fO,fK,gE,fP,yb,gn,cJ,fN,fM,rM,aL,aM,bJ];refine cg ?_
 (dsimp only[cA,bt,aA,bN,aQ,flags,aC,aH,aE,aI,bj,bS,aG,bW,aP,aN,aD,aF,Qa,aJ,aB,aK,jU,cG,cE,cB,bo,aS,jI];refine⟨rfl,rfl,?_⟩)
 rw[Qd,T];have N:∀ (R:D->Bool->Prop) (Y:DX),R (.bool Jc) Jc->aR (aO C<|n+3) "_law_numbers" [(D.list [],Jd),(.int h,Jc)] R Y:=λt Y q=>by
  rw[nil h];exact ie e R.h8 q
 have Z:∀ (R:D->Bool->Prop) (Y:DX),R (.bool Jc) Jc->aR (aO C<|n+3) "_law_numbers" [(D.list [],Jd),(.int w,Jc)] R Y:=λt Y q=>by
  rw[nil w];exact ie e R.w8 q
 refine g.hc<|N _ _ ?_
 (dsimp only[bt,cm,aB];refine⟨rfl,rfl,?_⟩)
 rw[Qd,E];refine g.hc<|Z _ _ ?_;dsimp only[bt,cm,aB];refine cg ?_
 (dsimp only[cq,aX,bt,c4,deq,bK,fsts,dtup,aC,aH,aU,aE,aI,aV,bH,dnew,aN,aD,aF,Qa,aJ,aB,aA,aK,bN,j5];refine⟨by decide,by decide,by decide,⟨rfl,rfl⟩,?_⟩)
 rw[c5];dsimp only[aA];refine bL ?_;dsimp only[ce,aG];exact g.qr k
end
inductive FnK(c:List (List (Option Int)))(r s:List Int)(h w:Nat)(p:Pl)(v:Int):Bool->D->Prop
 |zero (e0:v=0):FnK c r s h w p v Jd (.tup [.int 0,.list [],.list []])
 |cut {hi:Bool} {pa pb:Nat->Bool} (h1:pa p.1=Jc) (h2:pb p.2=Jd)
  (hcl:∀q∈psF c h w,(hi=Jc->pb q.2=Jc->pa q.1=Jc)/\(hi=Jd->q≠p->pa q.1=Jc->pb q.2=Jc)) (hv:v=(((Qc h).filter pa).map (r1F c r)).sum-(((Qc w).filter pb).map (r2F c s)).sum):
  FnK c r s h w p v hi (.tup [.int v,dNs<|(Qc h).filter pa,dNs ((Qc w).filter pb)])
section
variable{c:List (List (Option Int))}{r s:List Int}{h w:Nat}{p:Pl}{v:Int}{hi:Bool}{d:D}
theorem FnK.shape(k:FnK c r s h w p v hi d):∃A B,d= .tup [.int v,dNs A,dNs B]/\A.length<=h:=by
 induction k with
 |zero e=>subst e;exact⟨[],[],rfl,QT _⟩
 |cut=>exact⟨_,_,rfl,Qn (KX _ _)<|QU QA⟩
theorem lowK{x:Pl->Int}(V:VOK c r s h w)(D:p∈psF c h w)(F:Good (psF c h w) h w (r1F c r) (r2F c s) (.tab x))(E:¬ (glG Jd p∈(cmG (psF c h w) Jd p x).1/\(Jd=Jd->x p≠0))):FnK c r s h w p (x p) Jd (lowD (psF c h w) h w p x):=by
 have S:=iL V.R;unfold lowD;by_cases i:x p>0
 ·rw[Y6 i];obtain⟨b,Z⟩:=pL (hi:=Jd) S F D;have O:Nd.c p.2∉(cmG (psF c h w) Jd p x).1:=λq=>E ⟨q,λo0 z=>by rw[z] at i;exact absurd i<|Int.lt_irrefl 0⟩;refine .cut (Y6 b) (Y7 O) (λq o=>⟨λz=>ft z,λo0 e z=>Y6<|(Z q o e).1 (Y8 z)⟩) ?_;exact mD S F D (λq o e=>(Z q o e).2) (Y6 b)<|decide_eq_false O
 ·rw[Y7 i];exact .zero<|WU (KI.mp i) (F.1 p D)
theorem higK{x:Pl->Int}(V:VOK c r s h w)(D:p∈psF c h w)(F:Good (psF c h w) h w (r1F c r) (r2F c s) (.tab x))(E:¬ (glG Jc p∈(cmG (psF c h w) Jc p x).1/\(Jc=Jd->x p≠0))):FnK c r s h w p (x p) Jc (higD (psF c h w) h w p x):=by
 have S:=iL V.R;obtain⟨b,Z⟩:=pL (hi:=Jc) S F D;have O:Nd.r p.1∉(cmG (psF c h w) Jc p x).1:=λq=>E ⟨q,λz=>tf z⟩;have T:=ql (q:=Nd.c p.2∈(cmG (psF c h w) Jc p x).1) b;refine .cut (oJ O) T (λq o=>⟨λo0 z=> ?_,λz=>tf z⟩) ?_
 ·by_cases e:q=p
  ·subst e;rw[T] at z;exact ft z
  ·refine oJ λy=> ?_;rw[ql ((Z q o e).1 y)] at z;exact ft z
 ·exact mD S F D (λq o e=>(Z q o e).2.imp (λz=>Ud (!·) z) id) (oJ O) T
end
section
variable{C:Cx}{mg mb:Jq->Option Jf}{n:Nat}{Q:D->Bool->Prop}{X:DX}
theorem n5(e:Env1 C G1 mg mb)(V:VOK c r s h w)(K:p∈psF c h w){d:D}(z:FnK c r s h w p v hi d){b H W E:Bool}(k:Q (.bool Jc) Jc):
  aR (aO C<|n+4) "_law_fence" [(.tup [dC c,dI r,dI s],b),(dP p,H),(d,W),(.bool hi,E)] Q X:=by
 induction z with
 |zero u=>exact uk e V.R V.hr V.hs k
 |cut N Y l hv=>exact wq e V.R V.hr V.hs K N Y l hv k
end
def cT(t:List (List Int))(h w:Nat)(g:Pl->Bool):List (List (Option Int)):=cellsF t (λa b=>g (a,b)) h w
def PS(h w:Nat)(g:Pl->Bool):List Pl:=(allF h w).filter g
def xT(t:List (List Int))(p:Pl):Int:=cell t p.1 p.2
theorem Ab{g:Pl->Bool}(T:a<h)(R:b<w):cO (cT t h w g) a b=cellO t (λa b=>g (a,b)) a b:=by
 rw[cO,cT,cellsF,jY _ T,fB _ R]
theorem qK{g:Pl->Bool}(T:a<h)(R:b<w):(!(cO (cT t h w g) a b).isSome)=g (a,b):=by
 rw[Ab T R];show(!(cond (g (a,b)) Jb<|Ja (cell t a b)).isSome)=g (a,b);cases g (a,b)<;>rfl
theorem i4(t:List (List Int))(h w:Nat)(g:Pl->Bool):psF (cT t h w g) h w=PS h w g:=
 Yg λp D=>qK (allF_mem.mp D).1 (allF_mem.mp D).2
theorem PS_mem{g:Pl->Bool}{p:Pl}:p∈PS h w g↔(p.1<h/\p.2<w)/\g p=Jc:=by rw[PS,Qh,allF_mem]
section
variable{t:List (List Int)}{h w:Nat}{g g':Pl->Bool}
theorem z9{x:Pl->Int}(T:a<h)(R:b<w):hx (cT t h w g) x a b=cond (g (a,b)) (x (a,b)) 0:=by
 rw[hx,qK T R];cases g (a,b)<;>rfl
theorem vokT(R:Rect t h w)(N:NN t)(g:Pl->Bool):VOK (cT t h w g) (rsF t) (csF t w) h w:=vok R N _
abbrev RT(t:List (List Int))(h w:Nat)(g:Pl->Bool):Nat->Int:=r1F (cT t h w g)<|rsF t
abbrev CT(t:List (List Int))(h w:Nat)(g:Pl->Bool):Nat->Int:=r2F (cT t h w g)<|csF t w
theorem rowT(x:Pl->Int)(T:a<h):rowS (PS h w g) x a=((Qc w).map λb=>cond (g (a,b)) (x (a,b)) 0).sum:=by
 rw[<-i4 [],vX T];exact Ud Wn<|Qm λb R=>z9 T<|Qf.mp R
theorem colT(x:Pl->Int)(R:b<w):colS (PS h w g) x b=((Qc h).map λa=>cond (g (a,b)) (x (a,b)) 0).sum:=by
 rw[<-i4 [],w4 R];exact Ud Wn<|Qm λa T=>z9 (Qf.mp T) R
theorem xu(R:Rect t h w)(N:NN t){p:Pl}(D:p.1<h/\p.2<w):0<=xT t p:=(k7 R).mp N p.1 p.2 D.1 D.2
theorem goodT(R:Rect t h w)(N:NN t)(g:Pl->Bool):Good (PS h w g) h w (RT t h w g) (CT t h w g) (.tab (xT t)):=
 ⟨λp D=>xu R N (PS_mem.mp D).1,λi V=>(rowT _ V).trans (tn R (λa b=>g (a,b)) V).symm,λj H=>(colT _ H).trans (uA R (λa b=>g (a,b)) H).symm⟩
theorem szT(R:Rect t h w)(g:Pl->Bool):Sz (PS h w g) h w:=by
 rw[<-i4 t];exact iL<|Rect.range _ R.h1 R.h8 R.w1 R.w8
def mixT(t:List (List Int))(g':Pl->Bool)(y:Pl->Int)(p:Pl):Int:=cond (g' p) (y p)<|xT t p
theorem Ah(s:∀p,g' p=Jc->g p=Jc)(y:Pl->Int)(p:Pl):cond (g p) (mixT t g' y p) 0=cond (g' p) (y p) 0+(cond (g p) (xT t p) 0-cond (g' p) (xT t p) 0):=by
 unfold mixT;cases A:g' p with
 |true=>rw[s p A];show y p=y p+(xT t p-xT t p);rw[Yy,Kg]
 |false=>
  cases g p with
  |true=>show xT t p=0+(xT t p-0);rw[WF,Wh]
  |false=>rfl
theorem xw{f:Nat->Pl}(s:∀p,g' p=Jc->g p=Jc){y:Pl->Int}(e:((Qc n).map λb=>cond (g' (f b)) (y (f b)) 0).sum=((Qc n).map λb=>cond (g' (f b)) (xT t (f b)) 0).sum):
  ((Qc n).map λb=>cond (g<|f b) (mixT t g' y<|f b) 0).sum=((Qc n).map λb=>cond (g<|f b) (xT t<|f b) 0).sum:=by
 rw[show((Qc n).map λb=>cond (g<|f b) (mixT t g' y<|f b) 0)=(Qc n).map λb=>cond (g'<|f b) (y<|f b) 0+(cond (g<|f b) (xT t<|f b) 0-cond (g'<|f b) (xT t<|f b) 0) from Qm λb o0=>Ah s y (f b)];rw[<-km,<-m7,e,KS,WW]
theorem goodM(R:Rect t h w)(N:NN t)(s:∀p,g' p=Jc->g p=Jc){y:Pl->Int}(F:Good (PS h w g') h w (RT t h w g') (CT t h w g') (.tab y)):Good (PS h w g) h w (RT t h w g) (CT t h w g) (.tab (mixT t g' y)):=by
 obtain⟨L,m,G⟩:=F;obtain⟨o0,U,k⟩:=goodT R N g;obtain⟨o0,E,B⟩:=goodT R N g';refine⟨λp D=> ?_,λi V=> ?_,λj H=> ?_⟩
 ·obtain⟨q,Z⟩:=PS_mem.mp D;unfold mixT;cases A:g' p with
  |true=>exact L p<|PS_mem.mpr ⟨q,A⟩
  |false=>exact xu R N q
 ·have e:=(m i V).trans (E i V).symm;rw[rowT _ V,rowT _ V] at e;rw[<-U i V,rowT _ V,rowT _ V];exact xw (f:=λb=>(i,b)) s e
 ·have e:=(G j H).trans (B j H).symm;rw[colT _ H,colT _ H] at e;rw[<-k j H,colT _ H,colT _ H];exact xw (f:=λa=>(a,j)) s e
abbrev enT(t:List (List Int))(h w:Nat)(g:Pl->Bool)(hi:Bool)(p:Pl):Pl->Int:=endF (PS h w g) (RT t h w g) hi p<|xT t
theorem lv(R:Rect t h w)(N:NN t)(D:p∈PS h w g)(hi:Bool):Good (PS h w g) h w (RT t h w g) (CT t h w g) (.tab (enT t h w g hi p))/\¬ (glG hi p∈(cmG (PS h w g) hi p (enT t h w g hi p)).1/\(hi=Jd->enT t h w g hi p p≠0)):=
 uL (szT R g) D _ _ (goodT R N g) (QN _)
def gvT(t:List (List Int))(h w:Nat)(wd:Int)(g:Pl->Bool)(p:Pl):Bool:=gwF (PS h w g) (RT t h w g) (xT t) wd p
theorem xO(R:Rect t h w)(N:NN t)(s:∀p,g' p=Jc->g p=Jc)(D:p∈PS h w g')(hi:Bool):leG hi (enT t h w g' hi p p) (enT t h w g hi p p):=by
 obtain⟨c,q⟩:=PS_mem.mp D;have Q:p∈PS h w g:=PS_mem.mpr ⟨c,s p q⟩;have z:=vK (szT R g) (lv R N Q hi).1 Q (lv R N Q hi).2 (goodM R N s (lv R N D hi).1);rw[show mixT t g' (enT t h w g' hi p) p=enT t h w g' hi p p from by unfold mixT;rw[q];rfl] at z;exact z
theorem xb(R:Rect t h w)(N:NN t){wd:Int}(s:∀p,g' p=Jc->g p=Jc)(D:p∈PS h w g')(e:gvT t h w wd g p=Jc):gvT t h w wd g' p=Jc:=by
 have a:enT t h w g' Jc p p<=enT t h w g Jc p p:=xO R N s D Jc;have b:enT t h w g Jd p p<=enT t h w g' Jd p p:=xO R N s D Jd;exact Y6<|Int.lt_of_le_of_lt (Int.sub_le_sub a b) (Y8 e)
end
def smT(t:List (List Int))(bd:Int)(p:Pl):Bool:=decide (1<=xT t p)&&decide (xT t p<=bd)
noncomputable def rmv(g:Pl->Bool)(q:Pl)(p:Pl):Bool:=g p&& !decide (p=q)
theorem gM{g:Pl->Bool}(h:rmv g q p=Jc):g p=Jc/\p≠q:=by
 obtain⟨a,b⟩:=Qg.mp h;exact⟨a,λe=>by rw[Y6 e] at b;exact ft b⟩
theorem k8{g:Pl->Bool}(h:g p=Jc)(n:p≠q):rmv g q p=Jc:=by rw[rmv,h,Y7 n];rfl
theorem kJ(h w:Nat)(g:Pl->Bool)(q:Pl):PS h w (rmv g q)=(PS h w g).filter λp=> !decide (p=q):=by
 rw[PS,PS,Wu];exact Yg λp o0=>Bool.and_comm _ _
section
variable(t:List (List Int))(h w:Nat)(wd bd:Int)
def gone(g:Pl->Bool):Option Pl:=(PS h w g).find? (gvT t h w wd g)
noncomputable def peelT:Nat->(Pl->Bool)->Option (Pl->Bool)×List ((Pl->Bool)×Pl)
 |0,g=>(Jb,[])
 |k+1,g=>match gone t h w wd g with
  |none=>(Ja g,[])
  |some q=>cond (smT t bd q) (Jb,[(g,q)]) ((peelT k<|rmv g q).1,(g,q)::(peelT k<|rmv g q).2)
inductive Road:(Pl->Bool)->List ((Pl->Bool)×Pl)->Option (Pl->Bool)->Prop
 |stop {g:Pl->Bool} (s:∀p∈PS h w g,gvT t h w wd g p=Jd):Road g [] (Ja g)
 |hit {g:Pl->Bool} {q:Pl} (m:q∈PS h w g) (v:gvT t h w wd g q=Jc) (s:smT t bd q=Jc):Road g [(g,q)] Option.none
 |go {g:Pl->Bool} {q:Pl} {l:List ((Pl->Bool)×Pl)} {r:Option (Pl->Bool)} (m:q∈PS h w g) (v:gvT t h w wd g q=Jc) (s:smT t bd q=Jd) (n:Road (rmv g q) l r):Road g ((g,q)::l) r
end
section
variable{t:List (List Int)}{h w:Nat}{wd bd:Int}
theorem jR{g:Pl->Bool}(e:gone t h w wd g=Jb):peelT t h w wd bd (k+1) g=(Ja g,[]):=by rw[peelT,e]
theorem kQ{g:Pl->Bool}(e:gone t h w wd g=Ja q)(s:smT t bd q=Jc):peelT t h w wd bd (k+1) g=(Jb,[(g,q)]):=by rw[peelT,e];dsimp only;rw[s];rfl
theorem mB{g:Pl->Bool}(e:gone t h w wd g=Ja q)(s:smT t bd q=Jd):peelT t h w wd bd (k+1) g=((peelT t h w wd bd k (rmv g q)).1,(g,q)::(peelT t h w wd bd k (rmv g q)).2):=by rw[peelT,e];dsimp only;rw[s];rfl
theorem nJ{g:Pl->Bool}(e:gone t h w wd g=Ja q):q∈PS h w g/\gvT t h w wd g q=Jc:=⟨Wl e,Yx e⟩
theorem qI{g:Pl->Bool}(m:q∈PS h w g):(PS h w (rmv g q)).length<(PS h w g).length:=by
 rw[kJ];refine List.length_filter_lt_length_iff_exists.mpr ⟨q,m,?_⟩;rw[Y6 rfl];exact QC
theorem l8:∀ (k:Nat) (g:Pl->Bool),(PS h w g).length<k->Road t h w wd bd g (peelT t h w wd bd k g).2 (peelT t h w wd bd k g).1
 |0=>λg M=>absurd M<|Wd _
 |k+1=>λg M=>by
  induction e:gone t h w wd g with
  |none=>rw[jR e];exact .stop λp D=>WC.mpr<|List.find?_eq_none.mp e p D
  |some q=>
   obtain⟨m,v⟩:=nJ e
   induction s:smT t bd q with
   |true=>rw[kQ e s];exact .hit m v s
   |false=>rw[mB e s];exact .go m v s<|l8 k (rmv g q) (QJ (qI m)<|We M)
def Safe(t:List (List Int))(h w:Nat)(wd:Int)(g:Pl->Bool):Prop:=∀p∈PS h w g,gvT t h w wd g p=Jd
theorem Road.fin{g S:Pl->Bool}{l:List ((Pl->Bool)×Pl)}{r:Option (Pl->Bool)}(x:Road t h w wd bd g l r):r=Ja S->A3 (Safe t h w wd S) (∀p,S p=Jc->g p=Jc) (∀p,g p=Jc->smT t bd p=Jc->S p=Jc):=by
 induction x with
 |stop s=>intro e;obtain rfl:=sj e;exact⟨s,λo0 q=>q,λo0 q o0=>q⟩
 |hit m v s=>intro e;exact ns e
 |go m v s n i=>
  intro e;obtain⟨a,b,c⟩:=i e;exact⟨a,λp q=>(gM<|b p q).1,λp q z=>c p (k8 q λy=>by rw[y,s] at z;exact ft z) z⟩
theorem Road.max(R:Rect t h w)(N:NN t){g T:Pl->Bool}{l:List ((Pl->Bool)×Pl)}{r:Option (Pl->Bool)}(x:Road t h w wd bd g l r)(Y:Safe t h w wd T):(∀p,T p=Jc->g p=Jc)->r=Jb->∃q∈PS h w g,smT t bd q=Jc/\T q=Jd:=by
 have o:∀ {g:Pl->Bool} {q:Pl},(∀p,T p=Jc->g p=Jc)->q∈PS h w g->gvT t h w wd g q=Jc->T q=Jd:=λ{g q} E m v=>WC.mpr λz=>by
  have a:q∈PS h w T:=PS_mem.mpr ⟨(PS_mem.mp m).1,z⟩;exact ft<|(Y q a).symm.trans (xb R N E a v)
 induction x with
 |stop s=>intro _ e;exact sn e
 |hit m v s=>exact λE o0=>⟨_,m,s,o E m v⟩
 |go m v s n i=>
  intro E e;have z:=o E m v;obtain⟨B,a,G,A⟩:=i (λp D=>k8 (E p D) λy=>by rw[y,z] at D;exact ft D) e;exact⟨B,PS_mem.mpr ⟨(PS_mem.mp a).1,(gM (PS_mem.mp a).2).1⟩,G,A⟩
structure Full(t:List (List Int))(h w:Nat)(wd bd:Int)(g:Pl->Bool):Prop where
 safe:Safe t h w wd g
 all:∀p,p.1<h/\p.2<w->smT t bd p=Jc->g p=Jc
theorem nu(h w:Nat)(y:h<=8)(T:w<=8)(g:Pl->Bool):(PS h w g).length<65:=by
 have:(allF h w).length<=64:=by rw[jt];exact Yc y T
 exact Nat.lt_succ_of_le<|Qn (KX _ _) this
abbrev peel(t:List (List Int))(h w:Nat)(wd bd:Int)(g:Pl->Bool):Option (Pl->Bool)×List ((Pl->Bool)×Pl):=peelT t h w wd bd 65 g
theorem jm(R:Rect t h w)(g:Pl->Bool):Road t h w wd bd g (peel t h w wd bd g).2 (peel t h w wd bd g).1:=l8 65 g<|nu h w R.h8 R.w8 g
theorem rH(R:Rect t h w)(N:NN t){g X:Pl->Bool}{p:Pl}(E:smT t bd p=Jd)(u:∀q,X q=Jc->g q=Jc)(T:∀p,p.1<h/\p.2<w->smT t bd p=Jc->X p=Jc)(e:(peel t h w wd bd (rmv g p)).1=Jb):(peel t h w wd bd (rmv X p)).1=Jb:=by
 induction z:(peel t h w wd bd<|rmv X p).1 with
 |none=>rfl
 |some S=>
  obtain⟨a,b,c⟩:=(jm R<|rmv X p).fin z;obtain⟨q,m,s,y⟩:=(jm (wd:=wd) (bd:=bd) R<|rmv g p).max R N a (λq o=>k8 (u q (gM<|b q o).1) (gM<|b q o).2) e;have:S q=Jc:=c q (k8 (T q (PS_mem.mp m).1 s) (gM (PS_mem.mp m).2).2) s;rw[this] at y;exact tf y
noncomputable def fewO(g:Pl->Bool):Option (Pl->Bool)->Pl->Bool
 |some S=>S
 |none=>g
def few1(t:List (List Int))(h w:Nat)(wd bd:Int)(g:Pl->Bool)(p:Pl):Pl->Bool:=cond (g p&& !smT t bd p) (fewO g (peel t h w wd bd<|rmv g p).1) g
theorem vY(R:Rect t h w)(N:NN t){g:Pl->Bool}(F:Full t h w wd bd g)(p:Pl):A3 (Full t h w wd bd (few1 t h w wd bd g p)) (∀q,few1 t h w wd bd g p q=Jc->g q=Jc) (few1 t h w wd bd g p p=Jc->smT t bd p=Jd->(peel t h w wd bd (rmv g p)).1=Jb):=by
 unfold few1
 induction e:(g p&& !smT t bd p) with
 |false=>exact⟨F,λo0 q=>q,λq s=>by rw[show g p=Jc from q,s] at e;exact tf e⟩
 |true=>
  obtain⟨T,m⟩:=Qg.mp e;have s:smT t bd p=Jd:=(QQ _).mp m
  induction z:(peel t h w wd bd<|rmv g p).1 with
  |none=>exact⟨F,λo0 q=>q,λo0 o0=>rfl⟩
  |some S=>
   obtain⟨a,b,c⟩:=(jm R<|rmv g p).fin z;refine⟨⟨a,λq o E=>c q (k8 (F.all q o E) λy=>by rw[y,s] at E;exact ft E) E⟩,λq o=>(gM<|b q o).1,λq o0=>absurd rfl (gM<|b p q).2⟩
theorem tT(R:Rect t h w)(N:NN t):∀ (L:List Pl) (g:Pl->Bool),Full t h w wd bd g->A3 (Full t h w wd bd (L.foldl (few1 t h w wd bd) g)) (∀q,L.foldl (few1 t h w wd bd) g q=Jc->g q=Jc) (∀p∈L,L.foldl (few1 t h w wd bd) g p=Jc->smT t bd p=Jd->(peel t h w wd bd (rmv (L.foldl (few1 t h w wd bd) g) p)).1=Jb)
 |[]=>λg F=>⟨F,λo0 q=>q,λp D=>(bQ D)⟩
 |p::L=>λg F=>by
  obtain⟨a,b,c⟩:=vY R N F p;obtain⟨Y,G,Q⟩:=tT R N L _ a;refine⟨Y,λq o=>b q<|G q o,λq o e s=> ?_⟩
  rcases Qw.mp o with rfl|o
  ·exact rH R N s (λy W=>b y<|G y W) Y.all<|c (G _ e) s
  ·exact Q q o e s
end
theorem ur(t:List (List Int)):dT t=dC (t.map λr=>r.map Ja):=by
 show D.list _=D.list (Ky _<|Ky _ _);rw[QE];refine Ud D.list (Qm λr o0=> ?_);show D.list _=D.list (Ky _<|Ky _ _);rw[QE];rfl
theorem Rect.some{t:List (List Int)}(R:Rect t h w):Rect (t.map λr=>r.map Ja) h w:=
 ⟨by rw[Qd];exact R.len,λr T=>by obtain⟨q,o,rfl⟩:=Ql.mp T;rw[Qd];exact R.row q o,R.h1,R.h8,R.w1,R.w8⟩
theorem vE{t:List (List Int)}(R:Rect t h w)(T:a<h)(v:b<w):cO (t.map λr=>r.map Ja) a b=Ja (cell t a b):=by
 have e:rowAt (t.map λr=>r.map Ja) a=(rowAt t a).map Ja:=by rw[rowAt,Qs,(R.at_ T).1];rfl
 rw[cO,e,Qs,cell];rw[Qi (by rw[(R.at_ T).2];exact v)];rfl
def hdF(c:List (List (Option Int)))(ps:List Pl):List (List (Option Int)):=ps.foldl (λt p=>setG t p.1 p.2 Jb) c
theorem tK:∀ {ps:List Pl} {c:List (List (Option Int))},Rect c h w->(∀p∈ps,p.1<h/\p.2<w)->Rect (hdF c ps) h w/\∀a b,cO (hdF c ps) a b=if(a,b)∈ps then Jb else cO c a b
 |[]=>λR o0=>⟨R,λa b=>rfl⟩
 |p::ps=>λR D=>by
  obtain⟨o,r⟩:=D p<|.head _;obtain⟨N,Y⟩:=tK (ps:=ps) (R.setG (j:=p.2) (v:=Jb) o) λq m=>D q<|.tail _ m;refine⟨N,λa b=>(Y a b).trans ?_⟩;rw[uI R o r];by_cases q:(a,b)∈ps
  ·rw[Ua q,Ua (.tail _ q)]
  ·rw[Y9 q];by_cases z:(a,b)=p
   ·rw[Ua z,Ua (z▸ .head _)]
   ·rw[Y9 z,Y9 λy=>(Qw.mp y).elim z q]
theorem Bq{t:List (List Int)}(R:Rect t h w)(g:Pl->Bool):hdF (t.map λr=>r.map Ja) (PS h w g)=cT t h w g:=by
 obtain⟨N,Y⟩:=tK R.some (ps:=PS h w g) λp D=>(PS_mem.mp D).1;rw[qv N];refine Qm λa T=>Qm λb v=> ?_;have T:=Qf.mp T;have v:=Qf.mp v;rw[Y,vE R T v];show _=cond (g (a,b)) Jb (Ja<|cell t a b)
 induction q:g (a,b) with
 |true=>rw[Ua (PS_mem.mpr ⟨⟨T,v⟩,q⟩)];rfl
 |false=>rw[Y9 λz=>by rw[(PS_mem.mp z).2] at q;exact tf q];rfl
section
variable{C:Cx}{mg mb:Jq->Option Jf}{n:Nat}{Q:D->Bool->Prop}{X:DX}
theorem xd(e:Env1 C G1 mg mb)(R:Rect t h w)(k:Q (.bool Jc) Jc):aR (aO C (n+1)) "is_grid" [(dT t,b)] Q X:=by
 rw[ur];exact qp e R.some k
theorem ux(e:Env1 C G1 mg mb){r:List Int}(k:Q (.bool (r.all λi=>decide (i>=0))) Jc):aR (aO C (n+2)) "are_counts" [(dI r,b)] Q X:=by
 refine e.fn fj (br 7 rfl) rfl λl c P PX g=> ?_;dsimp only[fj];dsimp only[aZ,cb,bv];refine bL ?_
 (dsimp only[bj,hV,aG,aC,aE,bW];refine⟨rfl,?_⟩)
 refine b6 rfl ?_;dsimp only[fsts,dp,aC,aH,aW,aE,aI,aT,ct,aD,aF,Qa,aA,aK,bo,bC,cw];refine bG D.int (λi=> .bool (decide<|i>=0)) (λi h K k=> ?_) ?_
 ·dsimp only[bq,cF,b8,aM,Qa,aL,aB,aA,bJ];dsimp only[elD]
  (dsimp only[aQ,flags,aC,aH,aW,aE,aI,aT,aD,aJ,Qa,aF,aB,aA,aK,bw,aG,bu,bC];refine⟨rfl,?_⟩)
  exact g.hc<|ir e k
 ·refine jW (dj _ _) ?_;rw[hY];exact g.qr k
theorem wQ(e:Env1 C G1 mg mb)(R:Rect t h w)(N:NN t)(k:Q (.bool Jc) Jc):aR (aO C (n+3)) "is_table" [(dT t,b)] Q X:=by
 refine e.fn gR (br 8 rfl) rfl λl c P PX g=> ?_;dsimp only[gR];dsimp only[aZ,cb,bv];refine bL ?_
 (dsimp only[cq,bj,hV,aG,aC,aE,bW,aQ,flags,aH,aI,aD,aF,Qa,aA,aK,bo,aS];refine⟨rfl,?_⟩)
 refine g.hc<|xd e R ?_
 (dsimp only[bt,aA];refine⟨rfl,?_⟩)
 refine b6 rfl ?_;dsimp only[fsts,dp,aC,aH,aW,aE,aI,aT,ct,aD,aF,Qa,aA,aK,bo,bC,cw];refine bG dI (λr=> .bool (r.all λi=>decide<|i>=0)) (λr T K k=> ?_) ?_
 ·dsimp only[bq,cF,b8,aM,Qa,aL,aB,aA,bJ];dsimp only[elD]
  (dsimp only[aQ,flags,aC,aH,aW,aE,aI,aT,aD,aJ,Qa,aF,aB,aA,aK,bo,aS,bC,ch,bO];refine⟨rfl,?_⟩)
  exact g.hc<|ux e k
 ·refine jW (dj _ _) ?_;rw[hY,Qv.mpr λr T=>Qv.mpr λi V=>Y6 (N r T i V)];exact g.qr k
theorem yY(e:Env1 C G1 mg mb)(R:Rect t h w)(N:NN t)(k:Q .none Jc):aR (aO C (n+4)) "need_table" [(dT t,b)] Q X:=by
 refine e.fn fg (br 9 rfl) rfl λl c P PX g=> ?_;dsimp only[fg];dsimp only[aZ,cb,bv];refine cg ?_
 (dsimp only[bN,bt,aQ,flags,aC,aH,aE,aI,aD,aF,Qa,aA,aK,bo,aS];refine⟨rfl,?_⟩)
 refine g.hc<|wQ e R N ?_;dsimp only[bt,cm,aB];exact g.qn k
theorem zh(e:Env1 C G1 mg mb)(R:Rect t h w)(k:Q (.tup [dI (rsF t),dI (csF t w)]) Jc):aR (aO C (n+1)) "sums_of" [(dT t,b)] Q X:=by
 refine e.fn iz (br 11 rfl) rfl λl u P PX g=> ?_;dsimp only[iz];dsimp only[aZ,cb,bv];have d:=R.w8;refine bl ?_;refine b6 rfl ?_
 (dsimp only[fsts,aC,aH,aW,aE,aI,aT,bj,bS,bu,g7,g8,bW,aP,aN,aD,aF,Qa,aJ,aB,aA,aK];refine⟨rfl,?_⟩)
 refine aY (hZ R) ?_;dsimp only[cE,cB];rw[R.len0];refine⟨⟨by exact zim _,by exact zip' d⟩,cS (λ(c:Nat)=> .int ((t.map λr=>r[c]?.getD 0).sum)) (λc Z K k=> ?_) ?_⟩
 ·dsimp only[bq,cF,b8,aM,Qa,aL,aB,aA,bJ];dsimp only[elD]
  (dsimp only[bj,gm,aC,aE,bW];refine⟨rfl,?_⟩)
  refine b6 rfl ?_;dsimp only[fsts,dp,aC,aH,aW,aE,aI,aT,ct,aD,aJ,Qa,aF,aB,aA,aK,bo,bC,cw];refine bG dI (λr=> .int (r[c]?.getD 0)) (λr T K k=> ?_) ?_
  ·dsimp only[bq,cF,b8,aM,Qa,aL,aB,aA,bJ];dsimp only[elD];dsimp only[aP,aD,aJ,Qa,aF,aB,aA,aK,bo];refine aY (gp<|by rw[R.row r T];exact Z) ?_;exact k
  ·refine gx (d3 _ _) ?_;exact k
 ·dsimp only[bB,aG,aL,Qa,aM,aA,aB];refine cZ ?_;dsimp only[dU,cX,aU,dX,aV,cf,lG,aL,Qa,aA,aB,aF,aK,bI];refine b6 rfl ?_;dsimp only[fsts,aC,aH,aW,aE,aI,aT,ct,aD,aF,Qa,aB,aA,aK,bo,bC,cw];refine bG dI (λr=> .int r.sum) (λr T K k=> ?_) ?_
  ·dsimp only[bq,cF,b8,aM,Qa,aL,aB,aA,bJ];dsimp only[elD]
   (dsimp only[bj,gm,aC,aE,bW,aD,aJ,Qa,aF,aB,aA,aK,dp];refine⟨rfl,?_⟩)
   refine gx (fH _) ?_;exact k
  ·refine⟨rfl,rfl,by decide,?_⟩;rw[rsF,csF,dI,dI,QE,QE] at k;exact g.qr k
theorem l7(e:Env1 C G1 mg mb)(R:Rect t h w)(k:Q (.list ((allF h w).map dP)) Jc):aR (aO C (n+1)) "places_of" [(dT t,b)] Q X:=by
 rw[ur];exact kP e R.some k
theorem xt(e:Env1 C G1 mg mb)(R:Rect t h w){p:Pl}(D:p.1<h/\p.2<w)(k:Q (.bool (smT t bd p)) Jc):aR (aO C (n+1)) "is_small" [(dT t,b),(dP p,V),(.int bd,W)] Q X:=by
 refine e.fn gL (br 13 rfl) rfl λl c P PX g=> ?_;dsimp only[gL];dsimp only[aZ,cb,bv];refine bL ?_;dsimp only[jl,aG,aD,aF,Qa,aA,aB,aK,aP,aN];refine aY (kW p) ?_;refine aY (iw R D.1) ?_;refine aY (kL p) ?_;refine aY (jf R D.1 D.2) ?_;dsimp only[lb];have k:Q (.bool<|decide (1<=cell t p.1 p.2)&&decide (cell t p.1 p.2<=bd)) Jc:=k;refine cM (λN=> ?_) λN=> ?_
 ·rw[Y6 N] at k;exact g.qr k
 ·rw[Y7 N] at k;exact g.qr k
theorem zi(e:Env1 C G1 mg mb)(R:Rect t h w)(g:Pl->Bool)(k:Q (.tup [dC (cT t h w g),dI (rsF t),dI (csF t w)]) Jd):aR (aO C (n+2)) "seen" [(dT t,b),(.list ((PS h w g).map dP),G)] Q X:=by
 refine e.fn mz (br 19 rfl) rfl λl W P PX z=> ?_;dsimp only[mz];dsimp only[aZ,cb,bv];rw[<-Bq R g] at k;have U:∀p∈PS h w g,p.1<h/\p.2<w:=λp U=>(PS_mem.mp U).1;generalize PS h w g=s at U k ⊢;refine bl ?_;refine b6 rfl ?_;dsimp only[fsts,aC,aH,aW,aE,aI,aT,ct,aD,aF,Qa,aJ,aB,aA,aK,bo,bC,cw];refine bG dI dI (λr f K k=> ?_) ?_
 ·dsimp only[bq,cF,b8,aM,Qa,aL,aB,aA,bJ];dsimp only[elD]
  (dsimp only[bj,eQ,aC,aE,bW,aD,aJ,Qa,aF,aB,aA,aK,bo,sb,tgl];refine⟨rfl,?_⟩)
  rw[cP _ oL];exact k
 dsimp only[bB,aG,aL,Qa,aM,aB,aA];refine dz rfl ?_;dsimp only[fsts,aC,aH,aW,aE,aI,aT,ct,aD,aF,Qa,aJ,aB,aA,aK,bo,bC,fR,fQ,fO,fK,bI,bE,fP,gn,cJ,fN,fM,cw];rw[show D.list (t.map dI)=dC (t.map λr=>r.map Ja) from ur t];refine cK dP (λi L=>∃u v F Z,L=(Nb "table" F (dT t)<|Nb "places" Z (.list<|s.map dP)<|Nb "cells" Jc (dC<|hdF (t.map λr=>r.map Ja) (s.take i))<|No "row" u<|No "column" v<|No "sums" Jb<|[])) _ _ ⟨_,_,_,_,rfl⟩ ?_ ?_
 ·rintro j p L H ⟨u,v,F,Z,rfl⟩ K m;obtain⟨T,o0⟩:=tK (ps:=s.take j) R.some λq x=>U q<|Ys x;rw[show hdF (t.map λr=>r.map Ja) (s.take<|j+1)=setG (hdF (t.map λr=>r.map Ja)<|s.take j) p.1 p.2 Jb from gy _ _ H] at m;generalize hdF (t.map λr=>r.map Ja) (s.take j)=c at T m ⊢;obtain⟨o,J⟩:=U p<|QB H;dsimp only[dP];dsimp only[gE,bz,cy,bA,cp,fJ,aL,Qa,aM,aB,aA,bJ];refine tq (i:=p.1) (j:=p.2) (v:=Jb) T rfl o J (λQ q=>⟨rfl,q⟩) (λQ X q=> ?_) (λQ X q=> ?_) ?_
  ·dsimp only[aD,aF,Qa,aJ,aB,aA,aK,bw];exact q
  ·dsimp only[aD,aF,Qa,aJ,aB,aA,aK,bw];exact q
  ·dsimp only[aL,Qa,aM,aB,aA];exact m _ ⟨Ja (.int p.1,Jc),Ja (.int p.2,Jc),_,_,rfl⟩
 ·rintro L ⟨u,v,F,Z,rfl⟩;rw[Kj];refine gZ ?_;refine bl ?_
  (dsimp only[aQ,flags,aC,aH,aW,aE,aI,aT,aD,aF,Qa,aJ,aB,aA,aK,bo,aS,bC,ch,bO];refine⟨rfl,?_⟩)
  refine z.hc<|zh e R ?_;dsimp only[aA,bR,tgl,bz,bI,bA,bE,aB,bB,aG,aL,Qa,aM];refine bL ?_
  (dsimp only[bK,fsts,dtup,aC,aH,aU,aW,aE,aI,aV,aT,aP,aN,aD,aF,Qa,aJ,aA,aB,aK,bR,tgl,bz,bI,bA,bE,gk,cG,bo,bC,dZ,ch,ej,bO,aS];refine⟨by decide,?_⟩)
  exact z.qr k
end
abbrev dH(t:List (List Int))(bd wd:Int):D:= .inst "Hider" [dT t,.int bd,.int wd]
theorem mT(a b c:D):dfld G1 "table" (.inst "Hider" [a,b,c])=Ja a:=rfl
theorem AM(a b c:D):dfld G1 "bound" (.inst "Hider" [a,b,c])=Ja b:=rfl
theorem zZ(a b c:D):dfld G1 "width" (.inst "Hider" [a,b,c])=Ja c:=rfl
def dGo:Option Pl->D
 |some q=>dP q
 |none=> .none
def dOp(h w:Nat):Option (Pl->Bool)->D
 |some S=> .list ((PS h w S).map dP)
 |none=> .none
def dStep(t:List (List Int))(h w:Nat)(x:(Pl->Bool)×Pl):D:= .tup [dP x.2,lowD (PS h w x.1) h w x.2<|enT t h w x.1 Jd x.2,higD (PS h w x.1) h w x.2 (enT t h w x.1 Jc x.2)]
abbrev dRoad(t:List (List Int))(h w:Nat)(l:List ((Pl->Bool)×Pl)):D:= .list (l.map<|dStep t h w)
theorem rr:D.isNone .none=Jc:=rfl
theorem xH(q:Pl):D.isNone (dP q)=Jd:=rfl
theorem pN(ps:List Pl)(h w:Nat)(p:Pl)(x:Pl->Int):D.atom (lowD ps h w p x)=Jd:=by
 unfold lowD;cases decide (x p>0)<;>rfl
theorem x7(ps:List Pl)(h w:Nat)(p:Pl)(x:Pl->Int):D.atom (higD ps h w p x)=Jd:=rfl
theorem yo{L u:Type}[DecidableEq L](g:L->u)(x:L):upd g x (g x)=g:=by
 funext z;by_cases q:z=x
 ·rw[q];exact bV g x _
 ·exact ck g _ q
theorem sw{L:Type}(f:L->Bool){l:List L}{j:Nat}{a:L}(H:l[j]? =Ja a):(l.take (j+1)).find? f=((l.take j).find? f).or (cond (f a) (Ja a) Jb):=by
 rw[fy H,List.find?_append,List.find?_cons];cases f a<;>rfl
theorem psl(R:Rect t h w)(g:Pl->Bool):(PS h w g).length<=64:=We<|nu h w R.h8 R.w8 g
inductive PlI(t:List (List Int))(h w:Nat)(wd bd:Int)(r:Option (Pl->Bool))(rd:List ((Pl->Bool)×Pl))(k:Nat)(Δ:DRho):Prop
 |mk (g:Pl->Bool) (pre:List ((Pl->Bool)×Pl)) (c1 c2:Bool) (u1 u2 u3 u4 u5:Option (D×Bool)) (hk:(PS h w g).length<k) (hp:pre.length+k=65) (hr:(peelT t h w wd bd k g).1=r) (hl:pre++(peelT t h w wd bd k g).2=rd)
  (e:Δ=(Nb "self" c1 (dH t bd wd)<|Nb "places" c2 (.list<|(PS h w g).map dP)<|Nb "road" Jc (dRoad t h w pre)<|No "bounds" u1<|No "gone" u2<|No "place" u3<|No "low" u4<|No "high" u5<|[])):PlI t h w wd bd r rd k Δ
section
variable{C:Cx}{mg mb:Jq->Option Jf}{n:Nat}{Q:D->Bool->Prop}{X:DX}{t:List (List Int)}{h w:Nat}{wd bd:Int}
theorem i7(e:Env1 C G1 mg mb)(R:Rect t h w){p:Pl}(D:p.1<h/\p.2<w)(k:Q (.bool (smT t bd p)) Jc):aR (aO C (n+2)) "Hider.small" [(dH t bd wd,b),(dP p,V)] Q X:=by
 refine e.fn eM (br 51 rfl) rfl λl c P PX g=> ?_;dsimp only[eM];dsimp only[aZ,cb,bv];refine bL ?_
 (dsimp only[aQ,flags,aC,aH,aW,aE,aI,aT,eh,aF,Qa,aB,aA,aK,aD];refine⟨rfl,?_⟩)
 refine aY (mT _ _ _) ?_;dsimp only[bo,aS];refine aY (AM _ _ _) ?_;dsimp only[bw,aG,bu];refine g.hc<|xt e R D ?_;exact g.qr k
theorem xW(e:Env1 C G1 mg mb)(K:ClsC C cls8){ps:List Pl}{x:Pl->Int}(l:ps.length<=64)(k:∀xs,NearX ps xs->Q (dIn ps x xs) Jd):aR (aO C (n+3)) "Bounds" [(dCt ps x,b)] Q X:=by
 refine up (c:=cls8) (a1:="counts") (e2:= .call "near_of" [.bi .list [.loc "counts"]]) e.g (todoE e.g e.x) K rfl rfl (by decide) ?_
 (dsimp only[aQ,flags,aC,aH,aW,aE,aI,aT,bj,eQ,bW,aD];refine⟨rfl,rfl,?_⟩)
 refine⟨⟨by rw[Qd];exact dB<|by exact zb2 l rfl,λq o=> ?_⟩,?_⟩
 ·obtain⟨y,o0,rfl⟩:=Ql.mp o;exact dB (show 2<=1000 by decide)
 rw[nq];refine pM (n:=n) e l λxs N=> ?_;exact⟨rfl,k xs N⟩
theorem p7(e:Env1 C G1 mg mb)(K:ClsC C cls8)(R:Rect t h w)(g:Pl->Bool){d V:Bool}(k:∀xs,NearX (PS h w g) xs->Q (dIn (PS h w g) (xT t) xs) Jd):aR (aO C (n+4)) "Hider.bounds_of" [(dH t bd wd,d),(.list ((PS h w g).map dP),V)] Q X:=by
 refine e.fn de (br 52 rfl) rfl λM f P PX F=> ?_;dsimp only[de];dsimp only[aZ,cb,bv];have S:=szT R g;have l:=psl R g;generalize PS h w g=s at S l k ⊢;refine bl ?_
 (dsimp only[iy,bB,aG,aL,Qa,aM,aB,aA];refine⟨rfl,?_⟩)
 refine dz rfl ?_;dsimp only[fsts,aC,aH,aW,aE,aI,aT,ct,aD,aF,Qa,aJ,aB,aA,aK,bo,bC,fR,fQ,fO,fK,mQ,bz,bI,cy,bA,cp,bE,fP,dW,gn,cJ,fN,fM,cw];refine cK dP (λi L=>∃u v b c,L=(Nb "self" b (dH t bd wd)<|Nb "places" c (.list<|s.map dP)<|Nb "counts" Jc (dCt (s.take i)<|xT t)<|No "row" u<|No "column" v<|[])) _ _ ⟨_,_,_,_,rfl⟩ ?_ ?_
 ·rintro j p L H ⟨u,v,b,c,rfl⟩ K m;have o:=mV S.nd H;obtain⟨I,r⟩:=S.mem p<|QB H;dsimp only[dP];dsimp only[gE,bz,cy,bA,cp,fJ,aL,Qa,aM,aB,aA,bJ];refine jE b7 (a:=p) (g:=λq=> .int (xT t q)) (xs:=s.take j) (dk:=dP p) (dv:= .int (xT t p)) rfl (S.nd.sublist<|Ye _ _) (c6<|by rw[Yq];exact zl (WK _ _)<|zb1 l rfl) (cW p) (λQ q=> ?_) (λQ X q=> ?_) ?_
  ·rw[tL];dsimp only[aP,aD,aF,Qa,aA,aB,aK,eh];refine aY (mT _ _ _) ?_;dsimp only[bo];refine aY (iw R I) ?_;dsimp only[bo];refine aY (jf R I r) ?_;exact⟨rfl,q⟩
  ·(dsimp only[bK,fsts,dtup,aC,aH,aU,aW,aE,aI,aV,aT,aD,aF,Qa,aA,aB,aK,bw,bu];refine⟨by decide,?_⟩)
   exact q
  ·dsimp only[aL,Qa,aB,aA];refine m _ ⟨Ja (.int p.1,Jc),Ja (.int p.2,Jc),b,c,?_⟩;rw[fy H,k4 o,yo (λq=>D.int<|xT t q) p];rfl
 ·rintro L ⟨u,v,b,c,rfl⟩;rw[Kj];refine gZ ?_;refine bL ?_
  (dsimp only[aQ,flags,aC,aH,aW,aE,aI,aT,aD,aF,Qa,aJ,aB,aA,aK,dy,aS,bC,ch,bO];refine⟨rfl,?_⟩)
  refine F.hc (xW e K l λxs N=> ?_);exact F.qr<|k xs N
theorem ph(e:Env1 C G1 mg mb)(K:ClsC C cls8)(R:Rect t h w)(N:NN t)(g:Pl->Bool){d b2:Bool}(k:Q (.tup [dOp h w (peel t h w wd bd g).1,dRoad t h w (peel t h w wd bd g).2]) Jd):aR (aO C (n+5)) "Hider.peeled" [(dH t bd wd,d),(.list ((PS h w g).map dP),b2)] Q X:=by
 refine e.fn ei (br 53 rfl) rfl λcl cu PQ PX F=> ?_;dsimp only[ei];dsimp only[aZ,cb,bv];refine bl ?_
 (dsimp only[bH,fsts,dnew,aE,aI,aV,aT,bB,aG,aL,Qa,aM,aB,aA];refine⟨by decide,?_⟩)
 generalize Z:(peel t h w wd bd g).1=r at k;generalize l:(peel t h w wd bd g).2=B at k;refine ig rfl 66 ?_;refine fC (PlI t h w wd bd r B) ?_ _ 65 _ (QN _) ⟨g,[],_,_,_,_,_,_,_,nu h w R.h8 R.w8 g,rfl,Z,l,rfl⟩;clear Z l g;rintro f L ⟨g,O,c,J,u1,u2,u3,I,a,A,b,Z,l,rfl⟩ KK m;obtain⟨f,rfl⟩:∃v,f=v+1:=⟨f-1,by exact zpr A⟩
 have S:=szT R g;have H:=psl R g;have G:=goodT R N g;dsimp only[ce,bt,aA];refine bl ?_
 (dsimp only[bZ,aH,aW,aC,aE,aI,aT,aD,aF,Qa,aJ,aB,aA,aK,bo,aS,bC,eA,gr,tgl,bz,bI,cy,bA,cp,bE,ch,ej,bO];refine⟨rfl,rfl,?_⟩)
 refine F.hc (p7 e K R g λM o=> ?_);dsimp only[aB,gr,tgl,bz,dW,bA,bE,fR,fQ,Qa,fO,fK,fP,mQ,bI,cy,cp,aA,gn,fN,fM,aS,aL,aM];refine bl ?_;dsimp only[eT,bB,aG,aL,Qa,aM,aB,aA];refine dz rfl ?_;dsimp only[fsts,aC,aH,aW,aE,aI,aT,ct,aD,aF,Qa,aJ,aB,aA,aK,bo,bC,fR,fQ,fO,fK,mQ,bz,bI,cy,bA,cp,bE,fP,dW,Bv,gn,fN,fM,cw];refine cK dP (λi L=>∃u c J,L=(Nb "self" c (dH t bd wd)<|Nb "places" J (.list<|(PS h w g).map dP)<|Nb "road" Jc (dRoad t h w O)<|Nb "bounds" Jd (dIn (PS h w g) (xT t) M)<|Nb "gone" Jc (dGo<|((PS h w g).take i).find? (gvT t h w wd g))<|No "place" u<|No "low" I<|No "high" a<|[])) _ _ ⟨_,_,_,rfl⟩ ?_ ?_
 ·rintro j p L E ⟨u,c,J,rfl⟩ K m;rw[sw (gvT t h w wd g) E] at m;have U:=QB E;dsimp only[b8,aL,Qa,aM,aB,aA,bJ];refine cg ?_;dsimp only[cq,bZ,aH,aC,aE,aI,eh,aF,Qa,aJ,aB,aA,aK,aD,eA,gr,tgl,bz,dW,bA,bE,aS,bt,dm]
  induction q:((PS h w g).take j).find? (gvT t h w wd g) with
  |some y=>
   rw[q] at m;dsimp only[dGo];refine⟨rfl,?_⟩;rw[xH];dsimp only[aB];exact m _ ⟨Ja (dP p,Jc),c,J,rfl⟩
  |none=>
   rw[q] at m;dsimp only[dGo];refine⟨rfl,?_⟩;rw[rr]
   (dsimp only[aA];refine⟨rfl,rfl,?_⟩)
   refine aY (zZ _ _ _) ?_;dsimp only[bw,aG];refine F.hc<|rQ e S o H G U ?_;dsimp only[bt];have m:∀P,(∃u c J,P=(Nb "self" c (dH t bd wd)<|Nb "places" J (.list<|(PS h w g).map dP)<|Nb "road" Jc (dRoad t h w O)<|Nb "bounds" Jd (dIn (PS h w g) (xT t) M)<|Nb "gone" Jc (dGo<|cond (gvT t h w wd g p) (Ja p) Jb)<|No "place" u<|No "low" I<|No "high" a<|[]))->K .next P:=m;show cond (gvT t h w wd g p) _ _
   induction z:gvT t h w wd g p with
   |true=>
    rw[z] at m;refine bl ?_;dsimp only[aD,aF,Qa,aJ,aB,aA,aK];exact m _ ⟨Ja (dP p,Jc),c,J,rfl⟩
   |false=>
    rw[z] at m;exact m _ ⟨Ja (dP p,Jc),c,J,rfl⟩
 ·rintro L ⟨u,c,J,rfl⟩;rw[Kj];refine gZ ?_;refine cg ?_;dsimp only[dm,bt,aD,aF,Qa,aJ,aB,aA,aK];change _=_ at Z
  induction q:gone t h w wd g with
  |none=>
   rw[jR q] at Z l;rw[show(PS h w g).find? (gvT t h w wd g)=Jb from q];dsimp only[dGo];refine⟨rfl,?_⟩;rw[rr];dsimp only[aA];refine bL ?_
   (dsimp only[bK,fsts,dtup,aC,aH,aU,aW,aE,aI,aV,aT,aD,aF,Qa,aJ,aB,aA,aK,bo,bC,ch,ej,bO,aS];refine⟨by decide,?_⟩)
   rw[QH] at l;rw[<-Z,<-l] at k;exact F.qr k
  |some y=>
   obtain⟨W,hv⟩:=nJ q;rw[show(PS h w g).find? (gvT t h w wd g)=Ja y from q];dsimp only[dGo];refine⟨rfl,?_⟩;rw[xH];dsimp only[aB];refine c7 rfl ?_
   (dsimp only[bZ,aH,aW,aC,aE,aI,aT,bj,bS,aG,bu,bW,aP,aN,eh,aF,Qa,aJ,aB,aA,aK,aD,eA,gr,tgl,bz,dW,bA,bE,aS];refine⟨rfl,rfl,rfl,?_⟩)
   refine aY (mT _ _ _) ?_
   (dsimp only[cE,cB];refine⟨rfl,?_⟩)
   refine aY (mT _ _ _) ?_;refine aY (hZ R) ?_;dsimp only[cE,cB];rw[R.lenD,R.len0];refine F.hc<|tY e S o H G W ?_;dsimp only[aA,bR,tgl,bz,bA,fJ,bJ];rw[pN];dsimp only[bE,aB,bB,aG,aL,Qa,aM,aA];refine iH ?_
   (dsimp only[aF,Qa,aJ,aB,aA,aK,dp,dU,cX,aU,dX,aV,cf,aL,aM];refine⟨trivial,?_⟩)
   rw[pN,x7];dsimp only[aB];rw[dg];have Y:(O.map (dStep t h w)++[D.tup [dP y,lowD (PS h w g) h w y<|endF (PS h w g) (RT t h w g) Jd y (xT t),higD (PS h w g) h w y (endF (PS h w g) (RT t h w g) Jc y<|xT t)]])=(O++[(g,y)]).map (dStep t h w):=jr (dStep t h w) O (g,y);rw[Y];have x:O.length<65:=QJ (Nat.lt_add_of_pos_right<|Yz f)<|QU b;refine⟨rfl,rfl,dB<|by decide,rfl,by rw[Qd];exact c6<|zll x (by decide),?_⟩;refine cg ?_
   (dsimp only[bZ,aH,aC,aE,aI,aD,aF,Qa,aJ,aB,aA,aK,eA,gr,tgl,bz,bI,cy,bA,cp,bE,aS];refine⟨rfl,rfl,?_⟩)
   refine F.hc<|i7 e R (PS_mem.mp W).1 ?_;dsimp only[bt]
   induction s:smT t bd y with
   |true=>
    rw[kQ q s] at Z l;dsimp only[aA];refine bL ?_
    (dsimp only[bK,fsts,dtup,aC,aH,aU,aW,aE,aI,aV,aT,aD,aF,Qa,aJ,aB,aA,aK,bo,bC,eT,bu,aS];refine⟨by decide,?_⟩)
    rw[<-Z,<-l] at k;exact F.qr k
   |false=>
    rw[mB q s] at Z l;dsimp only[aB];refine cI ?_;refine bl ?_;refine cx rfl ?_;dsimp only[fsts,aC,aH,aW,aE,aI,aT,ct,aD,aF,Qa,aJ,aB,aA,aK,bo,bC,cw];refine ca dP dP (λq=> !decide (q=y)) (λq hq=> ?_) ?_
    ·dsimp only[bq,cF,b8,aM,Qa,aL,aB,aA,bJ];refine⟨λT V=> ?_,λo0 K k=> ?_⟩
     ·dsimp only[tstD]
      (dsimp only[aX,bt,fD,deq,aD,aJ,Qa,aF,aB,aA,aK];refine⟨⟨rfl,rfl⟩,?_⟩)
      rw[gJ];exact V
     ·dsimp only[elD];dsimp only[aD,aJ,Qa,aF,aB,aA,aK];exact k
    dsimp only[bB,aG,aL,Qa,aM,aB,aA];rw[<-kJ];refine m _ _ (QN f) ⟨rmv g y,O++[(g,y)],c,Jc,_,_,_,_,_,QJ (qI W)<|We A,?_,Z,?_,rfl⟩
    ·rw[QG,<-b];exact(Yl _ 1 f).trans (Ud (O.length+ ·)<|Nat.add_comm 1 f)
    ·rw[<-l,Kr];rfl
end
theorem xJ(l:List D):D.isNone (.list l)=Jd:=rfl
theorem rJ{L u:Type}(f:u->L->u)(b:u){l:List L}{j:Nat}{a:L}(H:l[j]? =Ja a):(l.take (j+1)).foldl f b=f ((l.take j).foldl f b) a:=gy f b H
theorem uC{g:Pl->Bool}{p:Pl}(K:p.1<h/\p.2<w):(((PS h w g).map dP).any λd=>D.eqv d (dP p))=g p:=by
 rw[Kn,Ke]
 constructor
 ·rintro ⟨d,v,z⟩;obtain⟨q,o,rfl⟩:=Ql.mp v;rw[gJ] at z;rw[<-Y8 z];exact(PS_mem.mp o).2
 ·exact λz=>⟨dP p,Ql.mpr ⟨p,PS_mem.mpr ⟨K,z⟩,rfl⟩,by rw[gJ];exact Y6 rfl⟩
section
variable{C:Cx}{mg mb:Jq->Option Jf}{n:Nat}{Q:D->Bool->Prop}{X:DX}{t:List (List Int)}{h w:Nat}{wd bd:Int}
theorem lS(e:Env1 C G1 mg mb)(K:ClsC C cls8)(R:Rect t h w)(N:NN t)(g:Pl->Bool)(p:Pl){d V b:Bool}(k:Q (.tup [dOp h w (peel t h w wd bd (rmv g p)).1,dRoad t h w (peel t h w wd bd (rmv g p)).2]) Jd):aR (aO C (n+6)) "Hider.without" [(dH t bd wd,d),(.list ((PS h w g).map dP),V),(dP p,b)] Q X:=by
 refine e.fn dS (br 54 rfl) rfl λl c P PX F=> ?_;dsimp only[dS];dsimp only[aZ,cb,bv];refine bL ?_
 (dsimp only[bZ,aH,aW,aC,aE,aI,aT,aD,aF,Qa,aB,aA,aK,eA,gr,tgl,bz,bI,cy,bA,cp,bE,aS];refine⟨rfl,rfl,?_⟩)
 refine cx rfl ?_;dsimp only[fsts,aC,aH,aW,aE,aI,aT,ct,aD,aF,Qa,aB,aA,aK,bo,bC,cw];refine ca dP dP (λq=> !decide (q=p)) (λq o=> ?_) ?_
 ·dsimp only[bq,cF,b8,aM,Qa,aL,aB,aA,bJ];refine⟨λT Y=> ?_,λo0 K k=> ?_⟩
  ·dsimp only[tstD]
   (dsimp only[aX,bt,fD,deq,aD,aJ,Qa,aF,aA,aB,aK];refine⟨⟨rfl,rfl⟩,?_⟩)
   rw[gJ];exact Y
  ·dsimp only[elD];dsimp only[aD,aJ,Qa,aF,aB,aA,aK];exact k
 dsimp only[aG,bu,bC,ch,bO];rw[<-kJ];refine F.hc<|ph e K R N (rmv g p) ?_;dsimp only[aB,bR,tgl,bz,bI,bA,bE];rw[YC];exact F.qr k
theorem uP(e:Env1 C G1 mg mb)(K:ClsC C cls8)(R:Rect t h w)(N:NN t)(g:Pl->Bool){d V:Bool}(k:Q (.list ((PS h w ((PS h w g).foldl (few1 t h w wd bd) g)).map dP)) Jd):aR (aO C (n+7)) "Hider.fewest" [(dH t bd wd,d),(.list ((PS h w g).map dP),V)] Q X:=by
 refine e.fn er (br 55 rfl) rfl λl f P PX F=> ?_;dsimp only[er];dsimp only[aZ,cb,bv];refine dz rfl ?_
 (dsimp only[fsts,aC,aH,aW,aE,aI,aT,ct,bj,eQ,bW,aD,aF,Qa,aJ,aB,aA,aK,bo,sb,tgl,cw];refine⟨rfl,?_⟩)
 rw[cP dP dg];dsimp only[aA,bu,bB];refine cK dP (λi L=>∃u v b c,L=(Nb "self" b (dH t bd wd)<|Nb "places" c (.list<|(PS h w<|((PS h w g).take i).foldl (few1 t h w wd bd) g).map dP)<|No "place" u<|No "fewer" v<|[])) _ _ ⟨_,_,_,_,rfl⟩ ?_ ?_
 ·rintro j p L H ⟨u,v,b,c,rfl⟩ o m;have D:=(PS_mem.mp<|QB H).1;rw[rJ (few1 t h w wd bd) g H] at m;generalize ((PS h w g).take j).foldl (few1 t h w wd bd) g=a at m ⊢;unfold few1 at m;dsimp only[b8,aL,Qa,aM,aB,aA,bJ];refine cg ?_;dsimp only[cq,bN,bt,bZ,aH,aC,aE,aI,aD,aF,Qa,aJ,aB,aA,aK,eA,gr,tgl,bz,bI,cy,bA,cp,bE,aS,aX,i6];rw[jo];refine⟨⟨rfl,cj dP (λp=>rfl) _⟩,?_⟩;rw[uC D];skip
  induction q:a p with
  |false=>
   rw[q] at m;dsimp only[aB];exact m _ ⟨Ja (dP p,Jc),v,b,c,rfl⟩
  |true=>
   rw[q] at m
   (dsimp only[aA];refine⟨rfl,rfl,?_⟩)
   refine F.hc<|i7 e R D ?_;dsimp only[bt]
   induction s:smT t bd p with
   |true=>
    rw[s] at m;dsimp only[cm,aB];exact m _ ⟨Ja (dP p,Jc),v,b,c,rfl⟩
   |false=>
    rw[s] at m;dsimp only[j5,aA];refine bl ?_
    (dsimp only[aP,aN,bZ,aH,aW,aC,aE,aI,aT,aD,aF,Qa,aJ,aB,aA,aK,bo,aS,eA,gr,tgl,bz,bI,cy,bA,cp,bE];refine⟨rfl,rfl,?_⟩)
    refine F.hc<|lS e K R N a p ?_;dsimp only[aB,bR,tgl,bz,bI,bA,bE,dZ,cG];rw[YC,xK,dg]
    induction z:(peel t h w wd bd<|rmv a p).1 with
    |none=>
     rw[z] at m;dsimp only[dOp];dsimp only[bu,bC,ch,ej,bO,aB,Bg,bB,aG,aL,Qa,aM,aA];refine cg ?_
     (dsimp only[dq,bt,aD,aF,Qa,aA,aB,aK];refine⟨rfl,?_⟩)
     rw[rr];dsimp only[cm,aB];refine cI ?_;exact m _ ⟨Ja (dP p,Jc),_,b,c,rfl⟩
    |some S=>
     rw[z] at m;dsimp only[dOp];dsimp only[bu,bC,ch,ej,bO,aB,bo,fR,fQ,Qa,fO,fK,fP,mQ,bz,bI,cy,bA,cp,bE,aA,gn,fN,fM,aS,aL,aM];refine cg ?_
     (dsimp only[dq,bt,aD,aF,Qa,aA,aB,aK];refine⟨rfl,?_⟩)
     rw[xJ];dsimp only[j5,aA];refine bl ?_;dsimp only[aD,aF,Qa,aA,aB,aK,bo,fR,fQ,fO,fK,mQ,bz,bI,cy,bA,cp,bE,fP,fN,fM,aS,aL];refine cI ?_;exact m _ ⟨Ja (dP p,Jc),_,_,_,rfl⟩
 ·rintro L ⟨u,v,b,c,rfl⟩;rw[Kj];refine gZ ?_;refine bL ?_;dsimp only[aD,aF,Qa,aJ,aB,aA,aK,bo,aS];exact F.qr k
end
def othF(t:List (List Int))(h w:Nat)(bd:Int)(P:Pl->Bool):List Pl:=(PS h w P).filter λp=> !smT t bd p
def papD(t:List (List Int))(h w:Nat)(wd bd:Int)(P:Pl->Bool)(dps:List D):D:=
 .tup [.list ((PS h w<|smT t bd).map dP),.list<|(othF t h w bd P).map dP,.list dps,.list ((othF t h w bd P).map λp=> .tup [dP p,dRoad t h w (peel t h w wd bd<|rmv P p).2])]
theorem jz{q:Type}{tst:DRho->(Bool->Prop)->Prop}{el:DRho->DQ->Prop}{K:List D->Tag->Prop}(g f:q->D)(p:q->Bool)(U:∀a,dOR (λP=>(∀T:Bool->Prop,T (p a)->tst P T)/\∀K:DQ,(∀t,K (f a) t)->el P K) (bq tg (g a) L)):
  ∀ (l:List q) (c:List D) (t:Tag),(∀t,K (c++(l.filter p).map f) t)->dcomp tg L s tst el (l.map g) c t K
 |[]=>λc t k=>by rw[List.filter_nil,WG,QH] at k;exact k t
 |a::l=>λc t k=>by
  obtain⟨P,e,A,j⟩:=gS<|U a;show dOR _ (bq tg (g a) L);rw[e];refine A _ ?_
  induction N:p a with
  |true=>
   rw[QZ N] at k;exact j _ λu=>jz g f p U l (c++[f a]) _<|by rw[Kr];exact k
  |false=>
   rw[Ka (by rw[N];exact QC)] at k;exact jz g f p U l c t k
theorem yL(x:List String)(t:Tag):(tj (Ja x) t).isNone=Jd:=by rcases t with⟨⟩<;>rfl
theorem zu(h w:Nat):PS h w (λo0=>Jc)=allF h w:=WP.mpr λo0 o0=>rfl
theorem w7(l:List Pl):D.eqv (.list (l.map dP)) (.list [])=decide (l=[]):=by
 rcases l with o0|⟨a,l⟩
 ·rfl
 ·rw[Y7 (by simp)];rfl
section
variable{C:Cx}{mg mb:Jq->Option Jf}{n:Nat}{Q:D->Bool->Prop}{X:DX}{t:List (List Int)}{h w:Nat}{wd bd:Int}
theorem yh(e:Env1 C G1 mg mb)(K:ClsC C cls8)(O:ClsC C cls9)(R:Rect t h w)(N:NN t)(hb:1<=bd)(l:1<=wd){M E b:Bool}(s:PS h w (smT t bd)=[]->Q (.tup [.list [],.list [],.list [],.list []]) Jc)
  (m:∀P dps,Full t h w wd bd P->(∀p∈PS h w P,smT t bd p=Jd->(peel t h w wd bd<|rmv P p).1=Jb)->Q (papD t h w wd bd P dps) Jd)(x:X "NotHidden" [.hole]):aR (aO C<|n+8) "hide" [(dT t,M),(.int bd,E),(.int wd,b)] Q X:=by
 refine e.fn nv (br 25 rfl) rfl λcl cu PQ PX g=> ?_;dsimp only[nv];dsimp only[aZ,cb,bv];refine j9 ?_
 (dsimp only[aQ,flags,aC,aH,aE,aI,aD,aF,Qa,aJ,aB,aA,aK,bo,aS];refine⟨rfl,?_⟩)
 refine g.hc<|yY e R N ?_;refine j9 ?_
 (dsimp only[aQ,flags,aC,aH,aE,aI,aD,aF,Qa,aJ,aB,aA,aK,bw,aG];refine⟨rfl,?_⟩)
 refine g.hc<|lU e hb ?_;refine j9 ?_
 (dsimp only[aQ,flags,aC,aH,aE,aI,aD,aF,Qa,aJ,aB,aA,aK,bw,aG];refine⟨rfl,?_⟩)
 refine g.hc<|lU e l ?_;refine bl ?_
 (dsimp only[aQ,flags,aC,aH,aW,aE,aI,aT,aD,aF,Qa,aJ,aB,aA,aK,bw,aG,bu,bo,aS,bC,ch,bO];refine⟨rfl,?_⟩)
 refine g.hc<|sD (c:=cls9) (n:=n+5) (a1:="table") (a2:="bound") (a3:="width") e.g (todoE e.g e.x) O rfl rfl (by decide) ?_;dsimp only[aB,gr,tgl,bz,bI,cy,bA,cp,bE,fR,fQ,Qa,fO,fP,aA,fK,gn,cJ,fN,fM,aS,aL,aM];refine bl ?_;refine cx rfl ?_
 (dsimp only[fsts,aC,aH,aW,aE,aI,aT,ct,aQ,flags,aD,aF,Qa,aJ,aB,aA,aK,bo,aS,bC,ch,bO];refine⟨rfl,?_⟩)
 refine g.hc<|l7 e R ?_;dsimp only[cw,aA,bo,bu];refine ca dP dP (smT t bd) (λq o=> ?_) ?_
 ·dsimp only[bq,cF,b8,aM,Qa,aL,aB,aA,bJ];refine⟨λT Y=> ?_,λo0 K k=> ?_⟩
  ·dsimp only[tstD]
   (dsimp only[bZ,aH,aC,aE,aI,aD,aJ,Qa,aF,aB,aA,aK,eA,gr,tgl,bz,bI,cy,bA,cp,bE,aS];refine⟨rfl,rfl,?_⟩)
   exact g.hc<|i7 e R (allF_mem.mp o) Y
  ·dsimp only[elD];dsimp only[aD,aJ,Qa,aF,aB,aA,aK];exact k
 dsimp only[bB,aG,aL,Qa,aM,aB,aA];rw[show(allF h w).filter (smT t bd)=PS h w (smT t bd) from rfl];refine cg ?_
 (dsimp only[aX,bt,c4,deq,bH,fsts,dnew,aE,aI,aV,aD,aF,Qa,aJ,aB,aA,aK];refine⟨by decide,?_⟩)
 refine⟨⟨by rw[eS];exact cj dP (λp=>rfl) _,rfl⟩,?_⟩;rw[w7];refine cM (λA=> ?_) λA=> ?_
 ·refine bL ?_
  (dsimp only[bK,fsts,dtup,aC,aH,aU,aW,aE,aI,aV,aT,bH,dnew,bu,aG];refine⟨by decide,by decide,by decide,by decide,by decide,?_⟩)
  exact g.qr<|s A
 refine cI ?_;refine c7 rfl ?_
 (dsimp only[bZ,aH,aW,aC,aE,aI,aT,aQ,flags,aD,aF,Qa,aJ,aB,aA,aK,bo,aS,bC,ch,bO,eA,gr,tgl,bz,bI,cy,bA,cp,bE];refine⟨rfl,rfl,rfl,?_⟩)
 refine g.hc<|l7 e R ?_;dsimp only[aA,bo,aG,bu,bC,ch,bO];rw[<-zu];refine g.hc<|ph e K R N (λo0=>Jc) ?_;dsimp only[aB,bR,tgl,bz,bI,bA,bE,fJ,bJ];rw[YC];dsimp only[aB,fR,fQ,Qa,fO,fK,bI,bE,cy,cp,fP,mQ,bz,bA,aA,gn,cJ,fN,fM,aS,aL,aM];have f:=jm (wd:=wd) (bd:=bd) R (λo0=>Jc);refine cg ?_
 induction z:(peel t h w wd bd λo0=>Jc).1 with
 |none=>
  dsimp only[dOp]
  (dsimp only[dm,bt,aD,aF,Qa,aJ,aB,aA,aK];refine⟨rfl,?_⟩)
  rw[rr];dsimp only[aA];refine mP ⟨rfl,rfl,.inr ⟨rfl,rfl⟩⟩ ?_;dsimp only[fsts,aC,aH,aE,aI,aD,aF,Qa,aJ,aB,aA,aK];exact g.qx x
 |some S=>
  obtain⟨q1,q2,q3⟩:=f.fin z;obtain⟨F,J,f3⟩:=tT R N (PS h w S) S ⟨q1,λp o0 hs=>q3 p rfl hs⟩;dsimp only[dOp]
  (dsimp only[dm,bt,aD,aF,Qa,aJ,aB,aA,aK];refine⟨rfl,?_⟩)
  rw[xJ];dsimp only[aB];refine cI ?_;refine bl ?_
  (dsimp only[bZ,aH,aW,aC,aE,aI,aT,aD,aF,Qa,aJ,aB,aA,aK,bo,aS,bC,eA,gr,tgl,bz,bI,cy,bA,cp,bE,ch,ej,bO];refine⟨rfl,rfl,?_⟩)
  refine g.hc<|uP e K R N S ?_;have m:=λdps=>m _ dps F λp D=>f3 p (PS_mem.mpr ⟨(PS_mem.mp D).1,J p (PS_mem.mp D).2⟩) (PS_mem.mp D).2;generalize (PS h w S).foldl (few1 t h w wd bd) S=P at F m ⊢;dsimp only[aB,bo,fR,fQ,Qa,fO,fK,bI,bE,cy,cp,fP,mQ,bz,bA,aA,gn,cJ,fN,fM,aS,aL,aM];refine bl ?_;refine cx rfl ?_;dsimp only[fsts,aC,aH,aW,aE,aI,aT,ct,aD,aF,Qa,aJ,aB,aA,aK,bo,bC,cw];refine ca dP dP (λp=> !smT t bd p) (λq o=> ?_) ?_
  ·dsimp only[bq,cF,b8,aM,Qa,aL,aB,aA,bJ];refine⟨λT Y=> ?_,λo0 K k=> ?_⟩
   ·dsimp only[tstD]
    (dsimp only[bN,bt,bZ,aH,aC,aE,aI,aD,aJ,Qa,aF,aB,aA,aK,eA,gr,tgl,bz,bI,cy,bA,cp,bE,aS];refine⟨rfl,rfl,?_⟩)
    refine g.hc<|i7 e R (PS_mem.mp o).1 ?_;exact Y
   ·dsimp only[elD];dsimp only[aD,aJ,Qa,aF,aB,aA,aK];exact k
  dsimp only[bB,aG,aL,Qa,aM,aB,aA];rw[show(PS h w P).filter (λp=> !smT t bd p)=othF t h w bd P from rfl];refine bl ?_
  (dsimp only[aQ,flags,aC,aH,aW,aE,aI,aT,aD,aF,Qa,aJ,aB,aA,aK,bo,aS,bC,ch,ej,bO];refine⟨rfl,?_⟩)
  refine g.hc<|zi e R P ?_;dsimp only[aB,bR,tgl,bz,bI,bA,bE,fR,fQ,Qa,fO,fK,fP,aA,cy,cp,mQ,gn,cJ,fN,fM,aS,aL,aM];refine bl ?_
  (dsimp only[bH,fsts,dnew,aE,aI,aV,aT,bB,aG,aL,Qa,aM,aB,aA];refine⟨by decide,?_⟩)
  refine dz rfl ?_;dsimp only[fsts,aC,aH,aW,aE,aI,aT,ct,aD,aF,Qa,aJ,aB,aA,aK,bo,bC,fR,fQ,fO,fK,bI,bE,cy,cp,mQ,bz,bA,fP,gE,gn,cJ,fN,fM,cw];have V:=vokT R N P;refine cK dP (λi L=>∃dps u W v,dps.length=i/\L=(Nb "table" Jd (dT t)<|Nb "bound" E (.int bd)<|Nb "width" b (.int wd)<|Nb "hider" Jd (dH t bd wd)<|Nb "first" Jc (.list<|(PS h w<|smT t bd).map dP)<|Nb "places" Jd (.list<|(PS h w P).map dP)<|Nb "road" Jd (dRoad t h w (peel t h w wd bd λo0=>Jc).2)<|Nb "others" Jc (.list<|(othF t h w bd P).map dP)<|Nb "view" Jd (.tup [dC (cT t h w P),dI<|rsF t,dI (csF t w)])<|Nb "pairs" Jc (.list dps)<|No "place" u<|No "low" W<|No "high" v<|[])) _ _ ⟨[],_,_,_,rfl,rfl⟩ ?_ ?_
  ·rintro j p L H ⟨dps,u,W,v,d,rfl⟩ KK B;have o:p∈psF (cT t h w P) h w:=by rw[i4];exact QB H
   have r:j<64:=QJ (QF.mp H).1 (psl R P);dsimp only[b8,aL,Qa,aM,aB,aA,bJ];refine c7 rfl ?_
   (dsimp only[aQ,flags,aC,aH,aW,aE,aI,aT,aD,aF,Qa,aJ,aB,aA,aK,bR,tgl,bz,bI,bA,bE,aS];refine⟨rfl,?_⟩)
   refine g.hc<|yk e K V (.ok o) (λq=>sn q) (λp' y e1 Z=> ?_) λo0 pa pb o0 Z=> ?_
   ·dsimp only[aA,bR,tgl,bz,bI,bA,bE,aB,aG,bB,fJ,aL,Qa,aM,bJ];refine iH ?_
    (dsimp only[aF,Qa,aB,aA,aK,dp,dU,cX,aU,dX,aV,cf,aL,bI];refine⟨trivial,?_⟩)
    rw[dg];refine⟨rfl,rfl,dB<|by decide,rfl,by rw[d];exact c6<|zll r (by decide),?_⟩;exact B _ ⟨dps++[_],Ja (dP p,Jc),_,_,by rw[QG,d];rfl,rfl⟩
   ·have U:Good (psF (cT t h w P) h w) h w (RT t h w P) (CT t h w P) (outV (cT t h w P) (rsF t) (csF t w) h w):=pC (iL V.R) _ _ _ _ (fill0 V)<|QN _;rw[Z] at U;have G:=goodT R N P;rw[<-i4 t] at G;exact(zM (iL V.R) U G).elim
  ·rintro L ⟨dps,u,W,v,d,rfl⟩;refine gZ ?_;refine bL ?_;dsimp only[bK,fsts,dtup,aC,aH,aU,aW,aE,aI,aV,aT,aD,aF,Qa,aJ,aB,aA,aK,bo];refine b6 rfl ?_;dsimp only[fsts,aC,aH,aW,aE,aI,aT,ct,aD,aF,Qa,aJ,aB,aA,aK,bo,bC,cw];refine jz dP (λp=> .tup [dP p,dRoad t h w (peel t h w wd bd<|rmv P p).2]) (λo0=>Jc) (λa=> ?_) _ [] Jb (λu=> ?_)
   ·dsimp only[bq,cF,b8,aM,Qa,aL,aB,aA,bJ];refine⟨λT Y=>Y,λKD I=> ?_⟩;dsimp only[elD]
    (dsimp only[bK,fsts,dtup,aC,aH,aU,aW,aE,aI,aV,aT,aP,aN,bZ,aD,aJ,Qa,aF,aB,aA,aK,bo,aS,eA,gr,tgl,bz,bI,cy,bA,cp,bE];refine⟨rfl,rfl,?_⟩)
    refine g.hc<|lS e K R N P a ?_
    (dsimp only[aB,bR,tgl,bz,bI,bA,bE,gk,cG,bo];refine⟨by decide,?_⟩)
    exact I _
   ·refine⟨dB<|by decide,?_⟩;rw[KB,WP.mpr λo0 o0=>rfl];have m:=m dps;unfold papD at m;rw[yL];exact g.qr m
end
def hcF(ns:List Int)(k:Int):Int:=
 if((mixF ns 2).fdiv 6).fmod 9=0 then lF ns k else
  [0,1+((mixF ns k).fdiv 8).fmod 4,1+((mixF ns k).fdiv 8).fmod 4,5+((mixF ns k).fdiv 8).fmod 9,5+((mixF ns k).fdiv 8).fmod 9,5+((mixF ns k).fdiv 8).fmod 16,4+((mixF ns k).fdiv 8).fmod 9,((mixF ns k).fdiv 8).fmod 40][((mixF ns k).fmod 8).toNat]?.getD 0
theorem A0(ns:List Int)(k:Int):0<=hcF ns k:=by
 unfold hcF
 split
 ·exact uo ns k
 ·have q:=eX (a:=mixF ns k) (b:=8) (by decide);generalize (mixF ns k).fdiv 8=m;have L:∀b:Int,0<b->0<=m.fmod b:=λb R=>(eX R).1;have h:∀ (a b:Int),0<=a->0<b->0<=a+m.fmod b:=λa b N p=>YD N<|L b p;have t:=(KT q.1).mpr q.2;generalize ((mixF ns k).fmod 8).toNat=i at t ⊢
  match i,t with
  |0,_=>exact QX 0
  |1,_=>exact h 1 4 (by decide)<|by decide
  |2,_=>exact h 1 4 (by decide)<|by decide
  |3,_=>exact h 5 9 (by decide)<|by decide
  |4,_=>exact h 5 9 (by decide)<|by decide
  |5,_=>exact h 5 16 (by decide)<|by decide
  |6,_=>exact h 4 9 (by decide)<|by decide
  |7,_=>exact L 40<|by decide
  |i+8,t=>exact absurd t<|Kc.mpr (Nat.le_add_left 8 i)
def hcT(ns:List Int)(h w:Nat):List (List Int):=(Qc h).map λr=>(Qc w).map λc=>hcF ns<|8+(w:Int)*(r:Nat)+(c:Nat)
theorem tP(ns:List Int)(w j:Nat):dT (hcT ns (j+1) w)= .list ((hcT ns j w).map dI++[.list ((Qc w).map λ(c:Nat)=> .int (hcF ns (8+(w:Int)*(j:Nat)+(c:Nat))))]):=by
 rw[show hcT ns (j+1) w=hcT ns j w++[(Qc w).map λc=>hcF ns (8+(w:Int)*(j:Nat)+(c:Nat))] from(gN _ _).symm];rw[dT,QD,List.map_singleton,dI,QE];rfl
theorem zQ(ns:List Int)(h w:Nat):NN (hcT ns h w):=λr T i t=>by
 obtain⟨a,o0,rfl⟩:=Ql.mp T;obtain⟨b,o0,rfl⟩:=Ql.mp t;exact A0 _ _
theorem qz(a b:D)(k:Int):dsub (.list [a,b]) (.int (k.fmod 2))=Ja (cond (decide (k.fmod 2=0)) a b):=by
 obtain⟨i,e,h⟩:=mo (a:=k) (b:=2) (by decide);rw[show k.fmod 2=(i:Int) from e]
 match i,h with
 |0,_=>rfl
 |1,_=>rfl
 |i+2,h=>exact absurd h<|Kc.mpr (Nat.le_add_left 2 i)
theorem lz(c:Nat)(a:Int)(b:Nat)(R:1<=b):∃i:Nat,(c:Int)+a.fmod b=(i:Nat)/\c<=i/\i<c+b:=by
 obtain⟨i,e,h⟩:=mo (a:=a) R;exact⟨c+i,by rw[e];rfl,KF c i,Nat.add_lt_add_left h c⟩
section
variable{C:Cx}{mg mb:Jq->Option Jf}{n:Nat}{Q:D->Bool->Prop}{X:DX}
theorem Bo(e:Env1 C G1 mg mb){ns:List Int}(s:ns.length<=63)(h:Q (.int (hcF ns k)) Jc):aR (aO C (n+3)) "_law_hide_count" [(.scr ns,b),(.int k,c)] Q X:=by
 refine e.fn dh (br 29 rfl) rfl λM u P PX g=> ?_;dsimp only[dh];dsimp only[aZ,cb,bv];refine bl ?_
 (dsimp only[aQ,flags,aC,aH,aW,aE,aI,aT,aD,aF,Qa,aJ,aB,aA,aK,bw,aG,bu,gY,bC];refine⟨rfl,?_⟩)
 refine g.hc<|eU e s ?_;dsimp only[aA,bw,bB,aG,aL,Qa,aM,aB];refine bl ?_
 (dsimp only[bp,aN,aD,aF,Qa,aJ,aB,aA,aK,bw,eK,bB,aG,aL,aM];refine⟨by decide,by decide,?_⟩)
 refine cg ?_
 (dsimp only[aX,bt,c4,deq,aN,bp,aQ,flags,aC,aH,aW,aE,aI,aT,aG,bu,aD,aF,Qa,aJ,aB,aA,aK,gY,bC];refine⟨rfl,?_⟩)
 refine g.hc<|eU e s ?_
 (dsimp only[eK,cD,bY];refine⟨by decide,by decide,by decide,⟨rfl,rfl⟩,?_⟩)
 unfold hcF at h;refine cM (λi=> ?_) λi=> ?_
 ·rw[Ua i] at h;refine bL ?_
  (dsimp only[aQ,flags,aC,aH,aW,aE,aI,aT,aD,aF,Qa,aJ,aB,aA,aK,bw,aG,bu,gY,bC];refine⟨rfl,?_⟩)
  exact g.hc<|td e s (g.qr h)
 ·rw[Y9 i] at h;refine cI ?_;refine bl ?_
  (dsimp only[bH,fsts,dnew,aC,aH,aU,aW,aE,aI,aV,aT,bp,aN,aD,aF,Qa,aJ,aB,aA,aK,bw,cD,bu,dD,bB,aG,aL,aM];refine⟨by decide,by decide,by decide,by decide,by decide,by decide,by decide,by decide,?_⟩)
  refine bL ?_
  (dsimp only[aP,bp,aN,aD,aF,Qa,aB,aA,aK,bw,cD,bo];refine⟨by decide,?_⟩)
  have q:=eX (a:=mixF ns k) (b:=8) (by decide);generalize (mixF ns k).fdiv 8=m at h ⊢;refine aY (gv (l:=[0,1+m.fmod 4,1+m.fmod 4,5+m.fmod 9,5+m.fmod 9,5+m.fmod 16,4+m.fmod 9,m.fmod 40]) q.1 q.2) ?_;dsimp only[bw,aG];exact g.qr h
theorem xc(e:Env1 C G1 mg mb){ns:List Int}(h:ns.length<=63)(k:∀bd:Int,1<=bd->Q (.int bd) Jc):aR (aO C (n+2)) "_law_bound" [(.scr ns,b)] Q X:=by
 refine e.fn fk (br 31 rfl) rfl λl c P PX g=> ?_;dsimp only[fk];dsimp only[aZ,cb,bv];refine bl ?_
 (dsimp only[aQ,flags,aC,aH,aW,aE,aI,aT,aN,aG,bu,aD,aF,Qa,aJ,aB,aA,aK,gY,bC];refine⟨rfl,?_⟩)
 refine g.hc<|eU e h ?_;dsimp only[aA,bw,bB,aG,aL,Qa,aM,aB];refine cg ?_
 (dsimp only[aX,bt,c4,deq,aN,bp,aD,aF,Qa,aA,aB,aK,bw,cD,bY];refine⟨by decide,⟨rfl,rfl⟩,?_⟩)
 refine cM (λi=> ?_) λi=> ?_
 ·refine bL ?_
  (dsimp only[bp,aN,pA,aD,aF,Qa,aA,aB,aK,bw,eK,cD,dD,aG];refine⟨by decide,by decide,by decide,by decide,by decide,by decide,?_⟩)
  exact g.qr<|k _ (Ks (eX<|by decide).1)
 ·refine cI ?_;refine bL ?_
  (dsimp only[bp,aN,aD,aF,Qa,aA,aB,aK,bw,eK,cD,dD,aG];refine⟨by decide,by decide,by decide,?_⟩)
  exact g.qr<|k _ (Ks (eX<|by decide).1)
theorem v0(e:Env1 C G1 mg mb){ns:List Int}(s:ns.length<=63)(R:Rect t h w)(k:∀wd:Int,1<=wd->Q (.int wd) Jc):aR (aO C (n+2)) "_law_width" [(.scr ns,b),(dT t,c)] Q X:=by
 refine e.fn fq (br 32 rfl) rfl λM u P PX g=> ?_;dsimp only[fq];dsimp only[aZ,cb,bv];refine bl ?_
 (dsimp only[aQ,flags,aC,aH,aW,aE,aI,aT,aN,aG,bu,aD,aF,Qa,aJ,aB,aA,aK,gY,bC];refine⟨rfl,?_⟩)
 refine g.hc<|eU e s ?_;dsimp only[aA,bw,bB,aG,aL,Qa,aM,aB];refine bl ?_
 (dsimp only[bp,aN,aD,aF,Qa,aJ,aB,aA,aK,bw,eK,bB,aG,aL,aM];refine⟨by decide,by decide,?_⟩)
 generalize (mixF ns 4).fdiv 8=m;refine cg ?_
 (dsimp only[aX,bt,aN,bp,bj,bS,aC,aE,bW,aP,aD,aF,Qa,aB,aA,aK,lr,j4,cE,cB];refine⟨rfl,rfl,?_⟩)
 refine aY (hZ R) ?_;dsimp only[cE,cB];rw[R.lenD,R.len0];refine⟨.inl<|zb1 R.h8 rfl,?_⟩;refine cM (λi=> ?_) λi=> ?_
 ·refine bL ?_
  (dsimp only[bp,aN,aD,aF,Qa,aA,aB,aK,bw,cD,dD,aG];refine⟨by decide,?_⟩)
  exact g.qr<|k _ (Ks (eX<|by decide).1)
 ·refine cI ?_;refine bL ?_
  (dsimp only[bp,aP,aN,aD,aF,Qa,aB,aA,aK,bw,cD,bH,fsts,dnew,aC,aH,aU,aW,aE,aI,aV,aT,pA,bu];refine⟨by decide,by decide,by decide,by decide,by decide,by decide,by decide,by decide,by decide,by decide,by decide,by decide,by decide,?_⟩)
  have q:=eX (a:=mixF ns 4) (b:=8) (by decide);refine aY (gv (l:=[3,3,3,2,5,8,60,10^9].map m.fmod) q.1 q.2) ?_;dsimp only[aH,aI,dD,aG];refine g.qr<|k _ (Ks ?_);obtain⟨a,T,p⟩:=Ql.mp<|get_mem (l:=[3,3,3,2,5,8,60,10^9].map m.fmod) ((KT q.1).mpr q.2);refine QL ?_<|Int.le_of_eq p;exact(eX<|(by decide:∀a∈ [(3:Int),3,3,2,5,8,60,10^9],0<a) a T).1
theorem vq(e:Env1 C G1 mg mb){ns:List Int}(h:ns.length<=63)(k:∀x y:Nat,1<=x/\x<=8->1<=y/\y<=8->Q (.tup [.int x,.int y]) Jc):aR (aO C (n+2)) "_law_sides" [(.scr ns,b)] Q X:=by
 refine e.fn f__law_sides (br 28 rfl) rfl λl c P PX g=> ?_;dsimp only[f__law_sides];dsimp only[aZ,cb,bv];refine bl ?_
 (dsimp only[aQ,flags,aC,aH,aW,aE,aI,aT,aN,aG,bu,aD,aF,Qa,aJ,aB,aA,aK,gY,bC];refine⟨rfl,?_⟩)
 refine g.hc<|eU e h ?_;dsimp only[aA,bw,bB,aG,aL,Qa,aM,aB];generalize mixF ns 5=m;have fin:∀x y:Nat,(1<=x/\x<=8)->(1<=y/\y<=8)->dwss G1 l c (f__law_sides.b.drop 4) (Nb "_law_script" b (.scr ns)<|Nb "_law_number" Jc (.int m)<|Nb "_law_high" Jc (.int x)<|Nb "_law_wide" Jc (.int y)<|[]) P PX:=λx y hx W=>by
  dsimp only[f__law_sides,Yu];refine cg ?_
  (dsimp only[aX,bt,c4,deq,aN,bp,aD,aF,Qa,aB,aA,aK,bw,eK,cD,bY];refine⟨by decide,by decide,by decide,⟨rfl,rfl⟩,?_⟩)
  refine cM (λi=> ?_) λi=> ?_
  ·obtain⟨z,G,z1,z2⟩:=lz 1 (m.fdiv 1152) 8 (by decide);refine c7 rfl ?_
   (dsimp only[aP,bp,aN,aD,aF,Qa,aB,aA,aK,bw,eK,cD,bH,fsts,dnew,aC,aH,aU,aW,aE,aI,aV,aT,bK,dtup,bu,dD];refine⟨by decide,by decide,by decide,by decide,by decide,by decide,by decide,by decide,by decide,by decide,by decide,by decide,?_⟩)
   refine aY (qz _ _ _) ?_;have G:(1:Int)+(m.fdiv 1152).fmod 8=(z:Nat):=G;rw[G]
   induction decide ((m.fdiv 576).fmod 2=0) with
   |true=>
    dsimp only[aA,bR,tgl,bz,cy,bA,cp,aG,bB,fJ,aL,Qa,aB,bJ];refine cI ?_;refine bL ?_
    (dsimp only[bK,fsts,dtup,aC,aH,aU,aW,aE,aI,aV,aT,aD,aF,Qa,aA,aB,aK,bw,bu,aG];refine⟨by decide,?_⟩)
    exact g.qr<|k 1 z ⟨by decide,by decide⟩ ⟨z1,We z2⟩
   |false=>
    dsimp only[aB,bR,tgl,bz,cy,bA,cp,aA,aG,bB,fJ,aL,Qa,bJ];refine cI ?_;refine bL ?_
    (dsimp only[bK,fsts,dtup,aC,aH,aU,aW,aE,aI,aV,aT,aD,aF,Qa,aA,aB,aK,bw,bu,aG];refine⟨by decide,?_⟩)
    exact g.qr<|k z 1 ⟨z1,We z2⟩ ⟨by decide,by decide⟩
  ·refine cI ?_;refine bL ?_
   (dsimp only[bK,fsts,dtup,aC,aH,aU,aW,aE,aI,aV,aT,aD,aF,Qa,aA,aB,aK,bw,bu,aG];refine⟨by decide,?_⟩)
   exact g.qr<|k x y hx W
 obtain⟨x,ex,M,E⟩:=lz 2 (mixF ns 0) 3 (by decide);obtain⟨y,s,R,f⟩:=lz 2 (mixF ns 1) 3 (by decide);refine bl ?_
 (dsimp only[bp,aN,aQ,flags,aC,aH,aW,aE,aI,aT,aG,bu,aD,aF,Qa,aJ,aB,aA,aK,gY,bC];refine⟨rfl,?_⟩)
 refine g.hc<|eU e h ?_
 (dsimp only[cD,dD,bB,aG,aL,Qa,aM,aB,aA];refine⟨by decide,?_⟩)
 refine bl ?_
 (dsimp only[bp,aN,aQ,flags,aC,aH,aW,aE,aI,aT,aG,bu,aD,aF,Qa,aJ,aB,aA,aK,gY,bC];refine⟨rfl,?_⟩)
 refine g.hc<|eU e h ?_
 (dsimp only[cD,dD,bB,aG,aL,Qa,aM,aA,aB];refine⟨by decide,?_⟩)
 rw[show(2:Int)+(mixF ns 0).fmod 3=(x:Nat) from ex,show(2:Int)+(mixF ns 1).fmod 3=(y:Nat) from s];have hx:1<=x/\x<=8:=⟨Qn (by decide) M,Qn (Kv E)<|by decide⟩
 have W:1<=y/\y<=8:=⟨Qn (by decide) R,Qn (Kv f)<|by decide⟩
 refine cg ?_
 (dsimp only[aX,bt,c4,deq,aN,bp,aD,aF,Qa,aB,aA,aK,bw,cD,bY];refine⟨by decide,⟨rfl,rfl⟩,?_⟩)
 refine cM (λi=> ?_) λi=> ?_
 ·obtain⟨u,L,F,o⟩:=lz 2 (x:Int) 2 (by decide);obtain⟨v,Y,J,r⟩:=lz 2 (y:Int) 2 (by decide);refine c7 rfl ?_
  (dsimp only[aP,bp,aN,aD,aF,Qa,aB,aA,aK,bw,eK,cD,bH,fsts,dnew,aC,aH,aU,aW,aE,aI,aV,aT,bK,dtup,bu,dD];refine⟨by decide,by decide,by decide,by decide,by decide,by decide,by decide,by decide,?_⟩)
  refine aY (qz _ _ _) ?_;rw[show(2:Int)+(x:Int).fmod 2=(u:Nat) from L,show(2:Int)+(y:Int).fmod 2=(v:Nat) from Y]
  induction decide ((m.fdiv 9).fmod 2=0) with
  |true=>
   dsimp only[aA,bR,tgl,bz,cy,bA,cp,aG,bB,fJ,aL,Qa,aB,bJ];refine cI ?_;exact fin 5 v ⟨by decide,by decide⟩ ⟨Qn (by decide) J,Qn (Kv r)<|by decide⟩
  |false=>
   dsimp only[aB,bR,tgl,bz,cy,bA,cp,aA,aG,bB,fJ,aL,Qa,bJ];refine cI ?_;exact fin u 5 ⟨Qn (by decide) F,Qn (Kv o)<|by decide⟩ ⟨by decide,by decide⟩
 ·refine cI ?_;exact fin x y hx W
theorem wv(e:Env1 C G1 mg mb){ns:List Int}(s:ns.length<=63)(k:∀t h w,Rect t h w->NN t->Q (dT t) Jc):aR (aO C (n+4)) "_law_drawn" [(.scr ns,b)] Q X:=by
 refine e.fn fm (br 30 rfl) rfl λl f P PX g=> ?_;dsimp only[fm];dsimp only[aZ,cb,bv];refine c7 rfl ?_
 (dsimp only[aQ,flags,aC,aH,aW,aE,aI,aT,aD,aF,Qa,aJ,aB,aA,aK,gY,aG,bu,bC];refine⟨rfl,?_⟩)
 refine g.hc (vq e s λh w z u=> ?_);have U:=z.2;have d:=u.2;dsimp only[aA,bR,tgl,bz,cy,bA,cp,aG,bB,fJ,aL,Qa,aM,aB,bJ];refine bl ?_
 (dsimp only[bH,fsts,dnew,aE,aI,aV,aT,bB,aG,aL,Qa,aM,aB,aA];refine⟨by decide,?_⟩)
 refine dz rfl ?_;dsimp only[fsts,aC,aH,aW,aE,aI,aT,aD,aF,Qa,aJ,aB,aA,aK,bw,bu,bB,g7,g8];refine⟨⟨by exact zim _,by exact zip' U⟩,?_⟩;refine eB (λi L=>∃v,L=(Nb "_law_script" b (.scr ns)<|Nb "_law_high" Jc (.int h)<|Nb "_law_wide" Jc (.int w)<|Nb "_law_table" Jc (dT<|hcT ns i w)<|No "_law_row" v<|No "_law_number" Jb<|[])) ⟨_,rfl⟩ ?_ ?_
 ·rintro j L H ⟨v,rfl⟩ K m;dsimp only[b8,aL,Qa,aM,aB,aA,bJ];refine iH ?_
  (dsimp only[aF,Qa,aJ,aB,aA,aK,dp,lG,aL,aM];refine⟨trivial,?_⟩)
  refine b6 rfl ?_;dsimp only[fsts,aC,aH,aW,aE,aI,aT,aD,aF,Qa,aJ,aB,aA,aK,bw,bu,g7,g8];refine⟨⟨by exact zim _,by exact zip' d⟩,cS (λ(c:Nat)=> .int (hcF ns<|8+(w:Int)*j+c)) (λc Z K k=> ?_) ?_⟩
  ·dsimp only[bq,cF,b8,aM,Qa,aL,aB,aA,bJ];dsimp only[elD]
   (dsimp only[aQ,flags,aC,aH,aW,aE,aI,aT,bp,aD,aJ,Qa,aF,aB,aA,aK,bw,lr,aN,dD,aG,bu,gY,bC];refine⟨rfl,?_⟩)
   refine⟨.inl<|by exact zb1 d rfl,?_⟩;exact g.hc<|Bo e s k
  ·refine⟨rfl,rfl,?_,m _ ⟨Ja (.int j,Jc),?_⟩⟩
   ·rw[Qd,hcT,Qd,QA];unfold lim;exact zll H<|zb2 U rfl
   ·rw[tP];rfl
 ·rintro L ⟨v,rfl⟩;refine gZ ?_;have R:Rect (hcT ns h w) h w:=Rect.range _ z.1 U u.1 d;have N:=zQ ns h w;generalize hcT ns h w=t at R N ⊢;refine bl ?_
  (dsimp only[aQ,flags,aC,aH,aW,aE,aI,aT,aN,aG,bu,aD,aF,Qa,aJ,aB,aA,aK,gY,bC];refine⟨rfl,?_⟩)
  refine g.hc<|eU e s ?_;dsimp only[aA,bw,bB,aG,aL,Qa,aM,aB];refine cg ?_
  (dsimp only[aX,bt,aN,bp,aD,aF,Qa,aJ,aA,aB,aK,bw,cD,j4];refine⟨by decide,?_⟩)
  refine cM (λE=> ?_) λE=> ?_
  ·obtain⟨i,D,V⟩:=mo (a:=mixF ns 77) (b:=h) z.1;obtain⟨j,y,H⟩:=mo (a:=mixF ns 78) (b:=w) u.1;refine yu R (ki:=(i:Int)) (kj:=(j:Int)) (i:=i) (j:=j) (v:=1+((mixF ns 79).fdiv 4).fmod 2) rfl (eG V) (eG H) (λQ q=> ?_) (λQ X q=> ?_) (λQ X q=> ?_) ?_
   ·exact⟨by decide,by decide,by decide,rfl,q⟩
   ·(dsimp only[bp,aD,aF,Qa,aJ,aB,aA,aK,bw,aQ,flags,aC,aH,aW,aE,aI,aT,aN,aG,bu,gY,bC];refine⟨rfl,?_⟩)
    refine g.hc<|eU e s ?_;dsimp only[cD];exact⟨by exact Int.ne_of_gt<|Kf.mpr z.1,by rw[D];exact q⟩
   ·(dsimp only[bp,aD,aF,Qa,aJ,aB,aA,aK,bw,aQ,flags,aC,aH,aW,aE,aI,aT,aN,aG,bu,gY,bC];refine⟨rfl,?_⟩)
    refine g.hc<|eU e s ?_;dsimp only[cD];exact⟨by exact Int.ne_of_gt<|Kf.mpr u.1,by rw[y];exact q⟩
   ·dsimp only[aL,Qa,aM,aB,aA];refine cI ?_;refine cZ ?_
    (dsimp only[cf,aL,Qa,aM,aB,aA,aF,aJ,aK,bI];refine⟨rfl,?_⟩)
    refine g.qr<|k _ h w (R.set V) ((k7<|R.set V).mpr λa c T Z=> ?_);rw[t3 R V H]
    split
    ·exact YD (by decide) (eX<|by decide).1
    ·exact(k7 R).mp N a c T Z
  ·refine cI ?_;refine cZ ?_
   (dsimp only[cf,aL,Qa,aM,aB,aA,aF,aJ,aK,bI];refine⟨rfl,?_⟩)
   exact g.qr<|k t h w R N
end
theorem zz{g:Pl->Bool}(T:a<h)(R:b<w):hidF (PS h w g) a b=g (a,b):=uC (p:=(a,b)) ⟨T,R⟩
theorem zD(t:List (List Int))(h w:Nat)(g:Pl->Bool):viewF t (hidF (PS h w g)) h w= .tup [dC (cT t h w g),dI (rsF t),dI (csF t w)]:=by
 rw[viewF,show cellsF t (hidF<|PS h w g) h w=cT t h w g from ?_];refine Qm λa T=>Qm λb R=> ?_;unfold cellO;rw[zz (Qf.mp T) (Qf.mp R)]
section
variable{t:List (List Int)}{h w:Nat}{g:Pl->Bool}{q:Pl}
theorem lowT(R:Rect t h w)(N:NN t)(o:q∈PS h w g):FnK (cT t h w g) (rsF t) (csF t w) h w q (enT t h w g Jd q q) Jd (lowD (PS h w g) h w q (enT t h w g Jd q)):=by
 have z:=lowK (x:=enT t h w g Jd q) (vokT R N g) (p:=q) (by rw[i4];exact o) (by rw[i4];exact(lv R N o Jd).1) (by rw[i4];exact(lv R N o Jd).2);rw[i4] at z;exact z
theorem higT(R:Rect t h w)(N:NN t)(o:q∈PS h w g):FnK (cT t h w g) (rsF t) (csF t w) h w q (enT t h w g Jc q q) Jc (higD (PS h w g) h w q (enT t h w g Jc q)):=by
 have z:=higK (x:=enT t h w g Jc q) (vokT R N g) (p:=q) (by rw[i4];exact o) (by rw[i4];exact(lv R N o Jc).1) (by rw[i4];exact(lv R N o Jc).2);rw[i4] at z;exact z
end
section
variable{C:Cx}{mg mb:Jq->Option Jf}{n:Nat}{Q:D->Bool->Prop}{X:DX}{t:List (List Int)}{h w:Nat}{wd bd:Int}
theorem yf(e:Env1 C G1 mg mb)(R:Rect t h w)(N:NN t){g:Pl->Bool}(o:q∈PS h w g)(hv:gvT t h w wd g q=Jc){b E W Y:Bool}(k:Q (.bool Jc) Jc):aR (aO C (n+5)) "_law_step" [(dT t,b),(.list ((PS h w g).map dP),E),(dStep t h w (g,q),W),(.int wd,Y)] Q X:=by
 refine e.fn f0 (br 43 rfl) rfl λM c P PX F=> ?_;dsimp only[f0,dStep];dsimp only[aZ,cb,bv];have V:=vokT R N g;have D:q∈psF (cT t h w g) h w:=by rw[i4];exact o
 have l:=lowT R N o;have v:=higT R N o;have hv:decide (enT t h w g Jc q q-enT t h w g Jd q q<wd)=Jc:=hv;obtain⟨A,B,L,o0⟩:=l.shape;obtain⟨y,x,H,o0⟩:=v.shape;rw[L] at l ⊢;rw[H] at v ⊢;refine cg ?_
 (dsimp only[cA,bt,aA,aX,eF,aD,aF,Qa,aJ,aB,aK,aP,aN,dY,cG,fD,deq,bj,bS,bY,aC,aE,bW,iJ,aU,aV,cB,bN,cN,iM,gW,cm];refine⟨rfl,rfl,⟨rfl,rfl⟩,?_⟩)
 rw[show(!decide (((0+1+1+1:Nat):Int)=3))=Jd from rfl];dsimp only[aB];rw[jo];refine⟨⟨rfl,cj dP (λp=>rfl) _⟩,?_⟩;rw[uC (PS_mem.mp o).1,(PS_mem.mp o).2];dsimp only[cm,aB];refine cI ?_;refine bl ?_
 (dsimp only[aQ,flags,aC,aH,aW,aE,aI,aT,aD,aF,Qa,aJ,aB,aA,aK,bo,aS,bC,ch,ej,bO];refine⟨rfl,?_⟩)
 refine F.hc<|y7 e R ?_;rw[zD];dsimp only[aA,bR,tgl,bz,bI,bA,bE,aB,bB,aG,aL,Qa,aM];refine cg ?_
 (dsimp only[cA,bt,aA,bN,aQ,flags,aC,aH,aE,aI,ce,aG,aP,aN,aD,aF,Qa,aB,aK,bR,tgl,bz,gE,cy,bI,bA,bE,cp,jU,cG,dY,aS,jI];refine⟨rfl,?_⟩)
 refine F.hc<|n5 e V D l ?_
 (dsimp only[bt,cm,aB];refine⟨rfl,?_⟩)
 refine F.hc<|n5 e V D v ?_;dsimp only[bt,cm,aB];refine cI ?_;refine bL ?_;dsimp only[aX,aG,aD,aF,Qa,aB,aA,aK,bp,aP,aN,bR,tgl,bz,gE,cy,bI,bA,bE,cp,jI,cG,dY,bw,jU,eH,qi];rw[hv];exact F.qr k
theorem sv(e:Env1 C G1 mg mb)(p:Pl)(k:Q (.bool Jc) Jc):aR (aO C (n+2)) "_law_is_place" [(dP p,b)] Q X:=by
 refine e.fn dM (br 44 rfl) rfl λl c P PX F=> ?_;dsimp only[dM,dP];dsimp only[aZ,cb,bv];refine bL ?_
 (dsimp only[cq,aQ,flags,aC,aH,aW,aE,aI,aT,aP,aN,aD,aF,Qa,aA,aK,bR,tgl,bz,cy,bA,cp,gk,cG,bw,aG,bu,bC,dZ,aX,bt,c4,deq,bj,bS,bY,bW,iJ,aU,aV,cB,cN,iM,gW];refine⟨rfl,rfl,⟨rfl,rfl⟩,?_⟩)
 rw[show decide (((0+1+1:Nat):Int)=2)=Jc from rfl]
 (dsimp only[aA];refine⟨rfl,?_⟩)
 refine F.hc<|jq e ?_
 (dsimp only[bt,aA];refine⟨rfl,?_⟩)
 refine F.hc<|jq e ?_;exact F.qr k
theorem ou{L:Type}(f:L->D):∀ (l:List L) (n:Nat),enumD n (l.map f)=(l.zipIdx n).map λp=> .tup [.int (p.2:Nat),f p.1]
 |[],_=>rfl
 |a::l,n=>by rw[Qo,List.zipIdx_cons,Qo,<-ou f l (n+1)];rfl
theorem Road.ne{g:Pl->Bool}{l:List ((Pl->Bool)×Pl)}(x:Road t h w wd bd g l Jb):l≠ []:=by
 cases x with
 |hit=>exact λq=>nomatch q
 |go=>exact λq=>nomatch q
theorem Road.next{g:Pl->Bool}{l:List ((Pl->Bool)×Pl)}(x:Road t h w wd bd g l Jb){i:Pl->Bool}{r:List ((Pl->Bool)×Pl)}(e:l=(i,q)::r):A5 (i=g) (q∈PS h w g) (gvT t h w wd g q=Jc) (smT t bd q=decide (r=[])) (r≠ []->Road t h w wd bd (rmv g q) r Jb):=by
 cases x with
 |hit m v s=>cases e;exact⟨rfl,m,v,s.trans (Y6 rfl).symm,λz=>absurd rfl z⟩
 |go m v s n=>cases e;exact⟨rfl,m,v,s.trans (Y7 n.ne).symm,λo0=>n⟩
theorem q0:∀ {ps:List Pl} {q:Pl},q∈ps->ps.Nodup->∃j,((ps.map dP).findIdx? λy=>D.eqv y (dP q))=Ja j/\(ps.map dP).eraseIdx j=(ps.filter λp=> !decide (p=q)).map dP
 |[],q,o,_=>(bQ o)
 |a::ps,q,o,nd=>by
  obtain⟨l,nd⟩:=Qx.mp nd;rw[Qo,List.findIdx?_cons,gJ];by_cases z:a=q
  ·subst z;refine⟨0,by rw[Y6 rfl];rfl,?_⟩;rw[Ka (by rw[Y6 rfl];exact QC),WP.mpr λp K=>by rw[Y7 (λy:p=a=>l<|y▸K)];rfl];rfl
  ·obtain⟨j,N,Y⟩:=q0 ((Qw.mp o).resolve_left λy=>z y.symm) nd;refine⟨j+1,by rw[Y7 z,N];rfl,?_⟩;rw[QZ (by rw[Y7 z];rfl),Qo,<-Y];rfl
theorem vT(t:List (List Int))(h w:Nat)(x:(Pl->Bool)×Pl):D.atom (dStep t h w x)=Jd:=by
 show(Jc&&(D.atom (lowD _ _ _ _ _)&&_))=Jd;rw[pN];rfl
theorem kh(t:List (List Int))(h w:Nat)(x:(Pl->Bool)×Pl):dsub (dStep t h w x) (.int 0)=Ja (dP x.2):=rfl
theorem vM{P:Prop}[Decidable P](h:P↔j+1=n):decide ((j:Int)=(n:Int)-1)=decide P:=decide_eq_decide.mpr ⟨λq=>h.mpr (KP.mp (by rw[Int.natCast_succ,q,WW])),λq=>by rw[<-h.mp q,Int.natCast_succ,Int.add_sub_cancel]⟩
theorem yn(e:Env1 C G1 mg mb)(R:Rect t h w)(N:NN t){g:Pl->Bool}{l:List ((Pl->Bool)×Pl)}(x:Road t h w wd bd g l Jb)(hl:l.length<=1000)(k:Q (.bool Jc) Jc):aR (aO C (n+6)) "_law_road" [(dT t,b1),(.list ((PS h w g).map dP),b2),(.int bd,b3),(.int wd,b4),(dRoad t h w l,b5)] Q X:=by
 refine e.fn fX (br 45 rfl) rfl λcl cu PQ PX gg=> ?_;dsimp only[fX];dsimp only[aZ,cb,bv];have hne:=x.ne;have hpos:0<l.length:=List.length_pos_iff.mpr hne;refine cg ?_
 (dsimp only[cA,bt,aA,aX,c4,deq,aN,bj,bS,bY,aC,aE,bW,aD,aF,Qa,aJ,aB,aK,cE,cB,bN,cN,l4,gW,cm];refine⟨rfl,rfl,⟨rfl,rfl⟩,?_⟩)
 rw[Qd,Y7 (show ¬ ((l.length:Int)=0) from λq=>by rw[Int.ofNat_eq_zero.mp q] at hpos;exact absurd hpos<|by decide)];dsimp only[aB];refine cI ?_;refine bl ?_
 (dsimp only[bj,eQ,aC,aE,bW,aD,aF,Qa,aJ,aB,aA,aK,bo,sb,tgl];refine⟨rfl,?_⟩)
 rw[cP dP dg];dsimp only[aA,bB,aG,aL,Qa,aM,aB];refine dz rfl ?_;dsimp only[fsts,aC,aH,aW,aE,aI,aT,aD,aF,Qa,aJ,aB,aA,aK,bo,bC,fR,fQ,fO,fK,bI,bE,cy,cp,fP,gn,cJ,fN,fM,Bd];rw[ou];refine cK (λp:((Pl->Bool)×Pl)×Nat=>D.tup [.int (p.2:Nat),dStep t h w p.1]) (λj Δ=>∃hd u1 u2 u3,Δ=(Nb "_law_table" b1 (dT t)<|Nb "_law_places" b2 (.list<|(PS h w g).map dP)<|Nb "_law_bound_here" b3 (.int bd)<|Nb "_law_width_here" b4 (.int wd)<|Nb "_law_road_here" Jd (dRoad t h w l)<|Nb "_law_hidden_here" Jc (.list hd)<|No "_law_number" u1<|No "_law_step_here" u2<|No "_law_small_here" u3<|[])/\(j<l.length->∃g',hd=(PS h w g').map dP/\Road t h w wd bd g' (l.drop j) Jb)) _ _ ⟨_,_,_,_,rfl,λo0=>⟨g,rfl,x⟩⟩ ?_ ?_
 ·rintro j a Δ hj ⟨hd,u1,u2,u3,rfl,hr⟩ K kn;rw[List.getElem?_zipIdx] at hj;obtain⟨s,hs,rfl⟩:=Qt.mp hj;obtain⟨hjl,es⟩:=QF.mp hs;obtain⟨g',rfl,y⟩:=hr hjl;obtain⟨gs,q⟩:=s;obtain⟨rfl,hq,hv,hsm,hnx⟩:=y.next (show l.drop j=(gs,q)::l.drop (j+1) by rw[WQ hjl,es]);obtain⟨i,f1,f2⟩:=q0 hq (szT R gs).nd;rw[<-kJ] at f2;rw[KR];dsimp only[gE,bz,cy,bA,cp,fJ,aL,Qa,aM,aB,aA,bJ];rw[vT];dsimp only[bE];refine cg ?_
  (dsimp only[cA,bt,aA,bN,aQ,flags,aC,aH,aE,aI,aP,aN,aD,aF,Qa,aJ,aB,aK,bw,aG,bo,aS];refine⟨rfl,?_⟩)
  refine gg.hc<|yf e R N hq hv ?_
  (dsimp only[bt,cm,aB];refine⟨rfl,?_⟩)
  refine aY (kh _ _ _ _) ?_;dsimp only[];refine gg.hc<|sv e q ?_;dsimp only[bt,cm,aB];refine cI ?_;refine bl ?_;dsimp only[jl,bB,aG,aL,Qa,aM,aA,aB,aD,aF,aJ,aK,aP,aN];obtain⟨q1,q2⟩:=(PS_mem.mp hq).1;refine aY (kh _ _ _ _) ?_;dsimp only[];refine aY (kW q) ?_;refine aY (iw R q1) ?_;refine aY (kh _ _ _ _) ?_;dsimp only[];refine aY (kL q) ?_;refine aY (jf R q1 q2) ?_;dsimp only[lb];have hAB:(decide (1<=cell t q.1 q.2)&&decide (cell t q.1 q.2<=bd))=decide (l.drop (j+1)=[]):=hsm;generalize decide (1<=cell t q.1 q.2)=A at hAB ⊢;generalize decide (cell t q.1 q.2<=bd)=B at hAB ⊢;have fin:∀bb:Bool,bb=decide (l.drop (j+1)=[])->dwss G1 cl cu [.if_ (.cmp .ne (.loc "_law_small_here")<|.cmp .eq (.loc "_law_number") (.bin .sub (.bi .len [.loc "_law_road_here"])<|.int 1)) [.ret (.bool Jd)] [],.expr (.meth (.loc "_law_hidden_here") .remove [.sub (.loc "_law_step_here") (.int 0)])]
    (Nb "_law_table" b1 (dT t)<|Nb "_law_places" b2 (.list<|(PS h w g).map dP)<|Nb "_law_bound_here" b3 (.int bd)<|Nb "_law_width_here" b4 (.int wd)<|Nb "_law_road_here" Jd (dRoad t h w l)<|Nb "_law_hidden_here" Jc (.list<|(PS h w gs).map dP)<|Nb "_law_number" Jd (.int (j:Nat))<|Nb "_law_step_here" Jd (dStep t h w (gs,q))<|Nb "_law_small_here" Jc (.bool bb)<|[]) K λo0 o0 o0=>False:=λbb eb=>by
   refine cg ?_
   (dsimp only[aX,bt,fD,deq,c4,bp,aN,bj,bS,eH,aC,aE,bW,aD,aF,Qa,aB,aA,aK,cE,cB,bY];refine⟨rfl,⟨rfl,rfl⟩,⟨rfl,rfl⟩,?_⟩)
   rw[Qd,vM (P:=l.drop (j+1)=[]) ⟨λz=>Yw hjl<|Yt.mp z,λz=>Yt.mpr<|QU z.symm⟩,<-eb,c5];dsimp only[cm,aB];refine cI ?_;refine AI ?_
   (dsimp only[aF,Qa,aB,aA,aK,dp];refine⟨trivial,?_⟩)
   rw[tL];dsimp only[aL,Qa,aB,aA,aF,aK,dp,aP,aN,aD];refine aY (kh _ _ _ _) ?_;rw[xK]
   (dsimp only[];refine⟨rfl,rfl,?_⟩)
   refine⟨⟨⟨rfl,cj dP (λp=>rfl) _⟩,cP dP dg _⟩,?_⟩;rw[f1,cB,f2];exact kn _ ⟨_,_,_,_,rfl,λz=>⟨rmv gs q,rfl,hnx λy=>absurd (Yt.mp y)<|Nat.not_le.mpr z⟩⟩
  induction A with
  |true=>exact fin B hAB
  |false=>exact fin Jd hAB
 ·rintro Δ ⟨hd,u1,u2,u3,rfl,o0⟩;refine gZ ?_;refine bL ?_;dsimp only[ce,aG];exact gg.qr k
end
theorem zj(a b c d:D):dsub (.tup [a,b,c,d]) (.int 0)=Ja a:=rfl
theorem tQ(a b c d:D):dsub (.tup [a,b,c,d]) (.int 1)=Ja b:=rfl
theorem mY(a b c d:D):dsub (.tup [a,b,c,d]) (.int 3)=Ja d:=rfl
theorem kC(t:List (List Int)):D.okd 40 (dT t)=Jc:=by
 rw[dT,eS];exact cj dI (λr=>by rw[dI,eS];exact cj D.int (λi=>f7 _ _) _) _
theorem qJ(l:List Pl):D.okd 40 (.list (l.map dP))=Jc:=by rw[eS];exact cj dP (λp=>rfl) _
abbrev rdD(t:List (List Int))(h w:Nat)(rf:Pl->List ((Pl->Bool)×Pl))(p:Pl):D:= .tup [dP p,dRoad t h w (rf p)]
section
variable{C:Cx}{mg mb:Jq->Option Jf}{n:Nat}{Q:D->Bool->Prop}{X:DX}{t:List (List Int)}{h w:Nat}{wd bd:Int}
theorem oU(e:Env1 C G1 mg mb)(R:Rect t h w)(N:NN t){ns:List Int}{PX:DSX}(g:Gen C (n+8) Q X H f i PX)(k:Q (.bool Jc) Jc){F O:List Pl}{rf:Pl->List ((Pl->Bool)×Pl)}{P:Pl->Bool}
  (d:∀p∈allF h w,(decide (p∈F)||decide (p∈O))=P p)(A:∀p∈O,Road t h w wd bd (rmv P p) (rf p) Jb)(J:∀p∈O,(rf p).length<=1000):
  dwss G1 H f (f_law.b.drop 5) (Nb "_law_script" b (.scr ns)<|Nb "_law_table" B (dT t)<|Nb "_law_bound_here" Z (.int bd)<|Nb "_law_width_here" M (.int wd)<|Nb "_law_handed" V (dT t)<|Nb "_law_paper" c (.tup [.list (F.map dP),.list<|O.map dP,.list dps,.list (O.map<|rdD t h w rf)])<|No "_law_hidden_here" Jb<|No "_law_place" Jb<|No "_law_road_here" Jb<|[]) i PX:=by
 dsimp only[f_law,Yu];refine cg ?_
 (dsimp only[cA,bt,aA,aX,fD,deq,aD,aF,Qa,aJ,aB,aK,bN,cN,aP,aN,bj,bS,bY,aC,aE,bW,iJ,aU,aV,cB,iM,gW,cm];refine⟨rfl,rfl,⟨rfl,rfl⟩,?_⟩)
 rw[show(!decide (((0+1+1+1+1:Nat):Int)=4))=Jd from rfl]
 (dsimp only[aB];refine⟨rfl,?_⟩)
 refine aY (mY _ _ _ _) ?_;dsimp only[l4,gW,cm,aB];refine⟨⟨kC t,kC t⟩,?_⟩;rw[c5];dsimp only[cm,aB];refine cI ?_;refine cg ?_
 (dsimp only[bN,bt,bj,hV,aC,aE,bW];refine⟨rfl,?_⟩)
 refine b6 rfl ?_;dsimp only[fsts,dp,aC,aH,aW,aE,aI,aT,ct,aP,aN,aD,aF,Qa,aJ,aB,aA,aK,bR,tgl,bz,bI,bA,bE];refine aY (mY _ _ _ _) ?_;dsimp only[cw,bo,bC];refine bG (rdD t h w rf) (λo0=> .bool Jc) (λp U K k=> ?_) ?_
 ·dsimp only[bq,cF,b8,aM,Qa,aL,aB,aA,bJ];dsimp only[elD]
  (dsimp only[cq,aX,c4,deq,aN,bj,bS,bY,aC,aE,bW,aD,aJ,Qa,aF,aB,aA,aK,iJ,aU,aV,cB,cN,bt,iM,gW];refine⟨rfl,rfl,⟨rfl,rfl⟩,?_⟩)
  exact k
 refine jW (dj _ _) ?_;rw[show(O.map λo0=>Jc).all id=Jc from by rw[hY];exact Qv.mpr λo0 o0=>rfl];dsimp only[cm,aB];refine cI ?_;refine cg ?_;dsimp only[aX,bt,fD,deq,bj,eQ,aC,aE,bW,aP,aN,aD,aF,Qa,aJ,aB,aA,aK,bR,tgl,bz,bI,bA,bE];refine b6 rfl ?_;dsimp only[fsts,aC,aH,aW,aE,aI,aT,ct,aP,aN,aD,aF,Qa,aJ,aB,aA,aK,bR,tgl,bz,bI,bA,bE];refine aY (mY _ _ _ _) ?_;dsimp only[cw,bo,bC];refine bG (rdD t h w rf) dP (λp U K k=> ?_) ?_
 ·dsimp only[bq,cF,b8,aM,Qa,aL,aB,aA,bJ];dsimp only[elD];dsimp only[aP,aN,aD,aJ,Qa,aF,aB,aA,aK,bR,tgl,bz,bI,bA,bE,dZ,cG];exact k
 refine⟨rfl,?_⟩;refine aY (tQ _ _ _ _) ?_;dsimp only[sb];refine⟨⟨qJ O,qJ O⟩,?_⟩;rw[c5];dsimp only[cm,aB];refine cI ?_;refine bl ?_;refine cx rfl ?_
 (dsimp only[fsts,aC,aH,aW,aE,aI,aT,ct,aQ,flags,aD,aF,Qa,aJ,aB,aA,aK,bo,aS,bC,ch,bO];refine⟨rfl,?_⟩)
 refine g.hc<|xF e R D.int ?_;dsimp only[cw,aA,bo,bu];refine ca dP dP P (λq o=> ?_) ?_
 ·dsimp only[bq,cF,b8,aM,Qa,aL,aB,aA,bJ];refine⟨λT Y=> ?_,λo0 K k=> ?_⟩
  ·dsimp only[tstD];dsimp only[cA,bt,aX,i6,aP,aN,aD,aJ,Qa,aF,aB,aA,aK];refine aY (zj _ _ _ _) ?_;rw[jo];refine⟨⟨rfl,cj dP (λp=>rfl) _⟩,?_⟩;rw[rB];have z:=d q o
   induction y:decide (q∈F) with
   |true=>
    rw[y] at z;rw[<-z] at Y;dsimp only[aA];exact Y
   |false=>
    rw[y] at z;dsimp only[aB];refine aY (tQ _ _ _ _) ?_;rw[jo];refine⟨⟨rfl,cj dP (λp=>rfl) _⟩,?_⟩;rw[rB];rw[<-z] at Y;exact Y
  ·dsimp only[elD];dsimp only[aD,aJ,Qa,aF,aB,aA,aK];exact k
 dsimp only[bB,aG,aL,Qa,aM,aB,aA];rw[show(allF h w).filter P=PS h w P from rfl];refine dz rfl ?_;dsimp only[fsts,aC,aH,aW,aE,aI,aT,ct,aP,aN,aD,aF,Qa,aJ,aB,aA,aK,bR,tgl,bz,bI,bA,bE];refine aY (mY _ _ _ _) ?_;dsimp only[cw,bo,bC,fR,fQ,Qa,fO,fK,Bu,cp,aB,bI,bE,cy,fP,gE,bz,bA,aA,gn,cJ,fN,fM];refine cK (rdD t h w rf) (λo0 L=>∃u v B V c l,L=(Nb "_law_script" b (.scr ns)<|Nb "_law_table" B (dT t)<|Nb "_law_bound_here" Z (.int bd)<|Nb "_law_width_here" M (.int wd)<|Nb "_law_handed" V (dT t)<|Nb "_law_paper" c (.tup [.list (F.map dP),.list<|O.map dP,.list dps,.list (O.map<|rdD t h w rf)])<|Nb "_law_hidden_here" l (.list<|(PS h w P).map dP)<|No "_law_place" u<|No "_law_road_here" v<|[])) _ _ ⟨_,_,_,_,_,_,rfl⟩ ?_ ?_
 ·rintro j p L E ⟨u,v,B,V,c,l,rfl⟩ K m;have U:=QB E;dsimp only[gE,bz,bI,bA,bE,fJ,aL,Qa,aM,aB,aA,bJ];refine cg ?_
  (dsimp only[bN,bt,aQ,flags,aC,aH,aE,aI,aD,aF,Qa,aA,aB,aK,bo,aS,bw,aG];refine⟨rfl,?_⟩)
  refine cx rfl ?_;dsimp only[fsts,aC,aH,aW,aE,aI,aT,ct,aD,aF,Qa,aB,aA,aK,bo,bC,cw];refine ca dP dP (λq=> !decide (q=p)) (λq o=> ?_) ?_
  ·dsimp only[bq,cF,b8,aM,Qa,aL,aB,aA,bJ];refine⟨λT Y=> ?_,λo0 K k=> ?_⟩
   ·dsimp only[tstD]
    (dsimp only[aX,bt,fD,deq,aD,aJ,Qa,aF,aB,aA,aK];refine⟨⟨rfl,rfl⟩,?_⟩)
    rw[gJ];exact Y
   ·dsimp only[elD];dsimp only[aD,aJ,Qa,aF,aB,aA,aK];exact k
  dsimp only[aG];rw[<-kJ];refine g.hc<|yn e R N (A p U) (J p U) ?_;dsimp only[bt,cm,aB];refine cI ?_;exact m _ ⟨_,_,_,_,_,_,rfl⟩
 ·rintro L ⟨u,v,B,V,c,l,rfl⟩;refine gZ ?_;refine bL ?_;dsimp only[ce,aG];exact g.qr k
theorem nQ:∀ (k:Nat) (g:Pl->Bool),(peelT t h w wd bd k g).2.length<=k
 |0=>λg=>Qy 0
 |k+1=>λg=>by
  induction e:gone t h w wd g with
  |none=>rw[jR e];exact QT _
  |some q=>
   induction s:smT t bd q with
   |true=>rw[kQ e s];exact Kw<|QT k
   |false=>rw[mB e s];exact Kw<|nQ k (rmv g q)
theorem AY(e:Env1 C G1 mg mb)(K:ClsC C cls8)(E:ClsC C cls9){ns:List Int}(A:ns.length<=63)(k:Q (.bool Jc) Jc):aR (aO C (n+9)) "law" [(.scr ns,b)] Q X:=by
 refine e.fn f_law (br 46 rfl) rfl λl c y PX g=> ?_;dsimp only[f_law];dsimp only[aZ,cb,bv];refine bl ?_
 (dsimp only[aQ,flags,aC,aH,aW,aE,aI,aT,aD,aF,Qa,aJ,aB,aA,aK,gY,aG,bu,bC];refine⟨rfl,?_⟩)
 refine g.hc (wv e A λt h w R N=> ?_);dsimp only[aA,bo,bB,aG,aL,Qa,aM,aB];refine bl ?_
 (dsimp only[aQ,flags,aC,aH,aW,aE,aI,aT,aD,aF,Qa,aJ,aB,aA,aK,gY,aG,bu,bC];refine⟨rfl,?_⟩)
 refine g.hc (xc e A λbd v=> ?_);dsimp only[aA,bw,bB,aG,aL,Qa,aM,aB];refine bl ?_
 (dsimp only[aQ,flags,aC,aH,aW,aE,aI,aT,aD,aF,Qa,aJ,aB,aA,aK,bo,aS,bC,gY,aG,bu,ch,bO];refine⟨rfl,?_⟩)
 refine g.hc (v0 e A R λwd H=> ?_);dsimp only[aA,bw,bB,aG,aL,Qa,aM,aB];refine bl ?_;refine b6 rfl ?_;dsimp only[fsts,aC,aH,aW,aE,aI,aT,ct,aD,aF,Qa,aJ,aB,aA,aK,bo,bC,cw];refine bG dI dI (λr T K k=> ?_) ?_
 ·dsimp only[bq,cF,b8,aM,Qa,aL,aB,aA,bJ];dsimp only[elD]
  (dsimp only[bj,eQ,aC,aE,bW,aD,aJ,Qa,aF,aB,aA,aK,bo,sb,tgl];refine⟨rfl,?_⟩)
  rw[cP _ oL];exact k
 dsimp only[bB,aG,aL,Qa,aM,aB,aA];refine AW ⟨rfl,rfl,rfl⟩ ?_;refine bl ?_
 (dsimp only[aQ,flags,aC,aH,aW,aE,aI,aT,aD,aF,Qa,aJ,aB,aA,aK,bw,aG,bu,bo,aS,bC,ch,bO];refine⟨rfl,?_⟩)
 refine g.hc<|yh e K E R N v H (λJ=> ?_) (λP d F o=> ?_) ?_
 ·dsimp only[aA,bR,tgl,bz,bI,bA,bE,aB,bB,aG,aL,Qa,aM];refine cI ?_;exact oU (F:=[]) (O:=[]) (dps:=[]) (rf:=λo0=>[]) (P:=λo0=>Jd) e R N g k (λo0 o0=>rfl) (λo0 q=>bQ q)<|λo0 q=>bQ q
 ·dsimp only[aB];refine cI ?_;refine oU (F:=PS h w<|smT t bd) (O:=othF t h w bd P) (dps:=d) (rf:=λp=>(peel t h w wd bd<|rmv P p).2) (P:=P) e R N g k (λp D=> ?_) (λp D=> ?_)<|λp D=>Qn (nQ 65 _)<|by decide
  ·have T:=allF_mem.mp D
   induction q:P p with
   |true=>
    induction s:smT t bd p with
    |true=>rw[Y6 (PS_mem.mpr ⟨T,s⟩)];rfl
    |false=>rw[Y6 (show p∈othF t h w bd P from Qh.mpr ⟨PS_mem.mpr ⟨T,q⟩,by rw[s];rfl⟩),Bool.or_true]
   |false=>
    rw[Y7 λz=>by rw[F.all p T (PS_mem.mp z).2] at q;exact tf q,Y7 λz=>by rw[(PS_mem.mp (Qh.mp z).1).2] at q;exact tf q];rfl
  ·obtain⟨m,M⟩:=Qh.mp D;have z:=jm (wd:=wd) (bd:=bd) R<|rmv P p;rw[o p m ((QQ _).mp M)] at z;exact z
 ·rw[Ua (show G1.sub "NotHidden" "NotHidden"=Jc from rfl)];refine bL ?_;dsimp only[aX,aG,c4,deq,aD,aF,Qa,aJ,aB,aA,aK];refine⟨⟨kC t,kC t⟩,?_⟩;rw[c5];exact g.qr k
theorem pure12(C:Cx)(mg mb:Jq->Option Jf)(g:GOK C G1 mg mb)(x:ExcOK C G1 mg mb)(k:C.ok)(J:∀t∈tab0,X4 λa o f body=>FnAt C t.f t.ps t.b a o f body)(l:∀c∈kinds7.cl,ClsC C c)(ns:List Int)(s:ns.length<=63):
  aO C 20 "law" [.scr ns] noPH (λv o0=>v= .bool Jc) λo0 o0=>False:=by
 have i:ClsC C cls8:=l _<|.head _;have K:ClsC C cls9:=l _<|.tail _ (.head _);have Y:∀t∈tab,X4 λa o f body=>FnAt C t.f t.ps t.b a o f body:=λt W=>by
  rcases Qr.mp (show t∈tab0++(cls8.ms++cls9.ms) from W) with q|q
  ·exact J t q
  ·rcases Qr.mp q with q|q
   ·obtain⟨o0,o0,o0,o0,o0,m⟩:=i;exact m t q
   ·obtain⟨o0,o0,o0,o0,o0,m⟩:=K;exact m t q
 exact AY (n:=11) (b:=Jd) (Q:=λd o0=>d= .bool Jc) (X:=λo0 o0=>False) ⟨g,x,k,Y⟩ i K s rfl noPH [.scr ns] [[]] _ _ (.cons ⟨⟨rfl,Qn s (by decide)⟩,rfl⟩ (λq=>(nomatch q)) (λp D=>(nomatch D)) .nil) (λd b v T F q r=>by
  subst q;exact r.rd.1) λo0 o0 o0 o0 o0 q o0=>q
theorem hcf12:∀c∈kinds7.cl,kinds7.flds c.nm=c.fs:=λc Z=>by
 rcases Qw.mp Z with rfl|Z
 ·rfl
 ·rw[Qj.mp Z];rfl
theorem hnb12:∀c∈kinds7.cl,tab0.any (·.f==c.nm)=Jd:=λc Z=>by
 rcases Qw.mp Z with rfl|Z
 ·decide+kernel
 ·rw[Qj.mp Z];decide+kernel
end
section
open PySem.W PyProof.Rows
section
variable{tb:String->Option Builtin}{p:Jn}{w:Jm}{n₀:Nat}{ann:Option Jf}
theorem su{n:Nat}:∀ {s s':SharedT} {t:Thread},kD tb p w n₀ ann n s t=Ja s'->topRun tb p w n₀ ann n s.abs t=Ja s'.abs:=by
 induction n with
 |zero=>exact λh=>ns h
 |succ n ih=>
  intro s s' t h;replace h:cond (through t) (Ja s) (cond (stepOk n₀ ann t) ((stepT (denote tb) p w s t).bind λq=>kD tb p w n₀ ann n q.1 q.2) Jb)=Ja s':=h;unfold topRun
  induction ht:through t with
  |true=>rw[ht] at h;exact Ud (λz=>Ja<|SharedT.abs z)<|sj h
  |false=>
   rw[ht] at h
   induction ho:stepOk n₀ ann t with
   |false=>rw[ho] at h;exact ns h
   |true=>
    rw[ho] at h;obtain⟨q,hs,h⟩:=Qq.mp h;rw[stepT_spec hs];exact ih h
theorem mh{life:Life}:∀ (os:List Jp) (t:BT) (n:Nat) (t':BT),mj os t n=Ja t'->absHeap t' (n+os.length) life=⟨(absHeap t n life).objs++os.toArray,life⟩
 |[],t,n,t',h=>by cases h;rw[Array.append_empty];rfl
 |o::os,t,n,t',h=>by
  have h:cond ((t.ins n o).get n).isSome (mj os (t.ins n o)<|n+1) Jb=Ja t':=h;cases g:((t.ins n o).get n).isSome with
  |false=>rw[g] at h;cases h
  |true=>
   rw[g] at h;have z:=mh (life:=life) os (t.ins n o) (n+1) t' h;rw[absHeap_ins g] at z;rw[KU,<-Yl,QI,z];show Heap.mk ((absHeap t n life).objs.push o++os.toArray) life=_
   congr 1
   apply Array.ext';simp
theorem wh{s:Je}{sT:SharedT}(h:toT s=Ja sT):sT.abs=s:=by
 obtain⟨t,e,rfl⟩:=Qt.mp h;have z:=mh (life:=s.heap.life) _ _ _ _ e;obtain⟨⟨objs,life⟩,gens,drawn,toks,os⟩:=s;dsimp only at z ⊢;rw[KR,YB] at z;unfold SharedT.abs;dsimp only;rw[z]
 congr 2
 simp[absHeap,BT.list]
theorem pI{N:Nat}{s₀ s:Je}(h:jn tb p w N s₀=Ja s):topFrom tb p w N s₀=Ja s:=by
 unfold jn at h;unfold topFrom;cases e1:(s₀.heap.isNs JA&&s₀.gens.size==0) with
 |false=>rw[e1] at h;cases h
 |true=>
  rw[e1] at h;dsimp only at h ⊢;obtain⟨s₁,h1,h2⟩:=Qq.mp h;obtain⟨sT,h3,h4⟩:=Qq.mp h1;have z:=su h4;rw[wh h3] at z;rw[z];exact h2
theorem left_T{q:Jn}{loose:List Jq}{Xt:Je->Bool}{α:Type}{Yf:Je->α}{Ya:Jm->α}{N:Nat}{g0:Bool}
  (h:∀w:Jm,((fencedOpening Y2 p w N).bind (jn Y2 p w N)).map (λs=>(openSeen q loose (importedModules p.main.body) Xt g0 s,Yf s))=Ja (openGood q loose,Ya w)):LeftO p q loose Xt Yf Ya N g0:=λw=>by
 obtain⟨s,e,a⟩:=Qt.mp<|h w;obtain⟨s₀,e1,e2⟩:=Qq.mp e;unfold openEnds;rw[e1];show Wj _ (topFrom Y2 p w N s₀)=_;rw[pI e2];exact Ud Ja a
end
end
end Vl.Internal
end
open PySem.W PyProof.Rows
set_option maxRecDepth 100000 in
set_option maxHeartbeats 0 in
theorem PySem.Challenge.cw_uf010011_12_holds : PySem.Challenge.rw_uf010011_12.Holds := by
 w_on
 refine holds_law (by decide+kernel) λsaid=> ?_;refine holds_open (q:=Vl.Internal.view7) (loose:=[]) (Xt:=λs=>recOk (RowW.records<|OpenRow.toRowW (OpenLaw.row PySem.Challenge.rw_uf010011_12)) s) (XP:=λo0 o0=>True) (Yf:=Hook.obs<|Vl.Internal.hookE Vl.Internal.kinds7) (Ya:=Hook.val<|Vl.Internal.hookE Vl.Internal.kinds7) (YP:=Hook.says<|Vl.Internal.hookE Vl.Internal.kinds7) (N:=20000) ?hl (Hook.of<|Vl.Internal.hookE Vl.Internal.kinds7) (Hook.keeps<|Vl.Internal.hookE Vl.Internal.kinds7) (λo0 o0=>trivial) (λo0 o0 o0 o0 o0=>trivial) (by rfl) (by rfl) (by rfl) (λs e=>recFacts_of e) (by rfl) (by assumption) (by decide+kernel) ⟨rfl,rfl,rfl,rfl,rfl,by decide+kernel⟩ ?hw ?hc
 case hl=>exact Vl.Internal.left_T Vl.Internal.hl8
 case hw=>w_witness2
 case hc=>exact Vl.Internal.law_walk (N:=20) [("MOST",.int 8),("ROW",.str "row"),("COLUMN",.str "column")] Vl.Internal.tab0 Vl.Internal.kinds7 rfl rfl rfl (by decide+kernel) (by decide+kernel) (by decide+kernel) (by decide) Vl.Internal.hcf12 Vl.Internal.hnb12 Vl.Internal.pure12
