import PyProof.Rows.All
import PyProof.Logic
import PyProof.TupleKey
import PyProof.DictRoadsH
import PyProof.DictKinds
import PyProof.EqKinds
import KE.KDictList
import PyProof.ExcInit
import PyProof.ExcClass3
import PyProof.InstStoreFacts
import PyProof.AssignAttr
import PyProof.Cells
import PyProof.ExcBaseAll.ValueError
import OpenK.KWalk
import PyProof.Walks
import PyProof.WalksMore
import PyProof.StationsW
import PyProof.P3Statements
import PyProof.Dict
import PyProof.TupleIter
import PyProof.RangeIter
import PyProof.Rows.MatchSeqLen
import PyProof.CompIC
import KE.KTryMore
import PyProof.RulesAs
import PyProof.ExcAttrAll.ValueError
import PyProof.Rows.OwnQ
import Open.Head
import Open.Tree
import PyProof.EvalArms
import PyProof.Calls
import PyProof.CallRoads
import PyProof.PureInt
import PyProof.DefCall
import PyProof.SliceMore
import PyProof.ListOps
import PyProof.TupleOps
import PyProof.NoPylong
import PyProof.Rows.RuleB_small
import PyProof.Rows.RuleB_mod
import PyProof.Rows.RuleB_floordiv
import PyProof.Rows.SeqMore
import PyProof.Rows.TupTab
import PyProof.P3In
import PyProof.EqLayable
import PyProof.Rows.SortWalk
import PyProof.SumAny
import PyProof.MinMaxWalk
import PyProof.WalkInts
import PyProof.MaxThree
import PyProof.SeqI3
import PyProof.ConsumeWalk
import PyProof.TupleOfSeq
import PyProof.TupleCall
import PyProof.ListCopy
import PyProof.ListRange
import PyProof.Conv_int_bool
import PyProof.Rows.RuleN_abs
import PyProof.Rows.RuleN_isinstance
import KE.KDictOf
import PyProof.DictUpdate
import PyProof.IsiTupleOf
import PyProof.IsInstanceH
import PyProof.ListIndexNeg
import PyProof.Rows.TupMore
import PyProof.Rows.StrTemp
import PyProof.ZipIter
import PyProof.WalksEnum
import PyProof.EnumMake
import PyProof.RangeFor
import PyProof.CompFree
import PyProof.PlainList
import PyProof.ForAppend
import PyProof.Rows.Chain
import PyProof.Rows.ChunkLeaf
import PyProof.DictStraight
import PyProof.DictTable
import PyProof.RulesAssignMore
import PyProof.Raises
import PyProof.ObjNew
import PyProof.NsMap
import Wide.All
import OpenK.KLine
import PySem.Challenge.RW_uf010011_11
set_option linter.unusedVariables false
set_option linter.unusedSimpArgs false
set_option tactic.hygienic false
set_option compiler.extract_closed false
set_option bootstrap.genMatcherCode false
set_option genSizeOf false
set_option genSizeOfSpec false
set_option genInjectivity false
set_option backward.match.sparseCases false
open String renaming reduceBEq->Qa
open PySem.Str renaming ofString->Qb
open List renaming range->Qc, length_map->Qd, mem_map->Ql, mem_range->Qi, mem_append_right->Qe, map_cons->Qq, mem_filter->Qm, mem_cons->Qt, mem_append_left->Qf, mem_append->Qn, mem_singleton->Qk, map_congr_left->Qj, nodup_append->Qo, getElem?_eq_getElem->Qg, nodup_cons->Qy, map_map->QE, getElem?_map->Qu, all_eq_true->Qx, map_append->QD, length_range->QB, append_nil->QH, mem_of_getElem?->Qz, map->Kt, length_append->QG, sum_cons->QY, getElem?_eq_some_iff->QC, take_length->Ke, sum->Wo, any_eq_true->Ki, not_mem_nil->Kl, nil_append->Ku, nodup_range->Km, nodup_iff_pairwise_ne->QQ, of_mem_zip->Kx, filter->Wh, append_assoc->Kn, map_nil->Wj, length_cons->KW, getElem?_set->KS, getElem_mem->KX, filter_cons_of_pos->Ko, filter_cons_of_neg->Kq, mem_cons_of_mem->Kz, drop->Yd, contains_cons->Wa, getElem_of_mem->KT, mem_cons_self->Wb, sublist_cons_self->KF, getElem_range->Wc, length_nil->WA, getElem?_eq_none->KZ, pairwise_map->Wq, length_set->WC, getElem_map->Wt, filter_filter->Wl, sum_append->WW, ext_getElem?->WF, getElem?_range->Wu, lookup->YB, zip_cons_cons->Wy, length->YC, map_set->Yz, ext_getElem->WM, length_filter_le->Wm, filter_congr->WG, map_eq_nil_iff->Ww, contains_nil->Yg, lookup_cons->Yp, find?_some->Yw, mem_of_find?_eq_some->Wr, length_singleton->WH, length_take->Yq, getElem?_append_left->Ws, take_sublist->Yj, countP_append->WY, length_eq_zero_iff->WZ, filter_eq_nil_iff->Yk, exists_cons_of_ne_nil->WN, getElem?_zip_eq_some->WT, getElem?_eq_none_iff->WU, getElem?_append_right->WO, getElem?_of_mem->Yt, mem_of_mem_take->Yu
open Nat renaming le_trans->Qv, le_refl->QA, zero_le->QV, le_of_eq->QT, not_lt->Kc, lt_succ_self->QI, le_add_right->QO, lt_of_lt_of_le->QK, add_right_comm->QL, add_le_add->Kh, le_of_lt->Kv, lt_of_le_of_lt->QX, lt_irrefl->KH, le_of_succ_le->Kj, ne_of_gt->KQ, ne_of_lt->KU, add_le_add_right->Kk, succ_le_succ->KN, zero_add->Wx, le_succ->WD, add_le_add_left->KI, not_lt_zero->Wf, le_of_lt_succ->Wg, add_assoc->Ym, mul_le_mul->Yc, mul_le_mul_left->WQ, succ_lt_succ->Yn, lt_succ_of_lt->Ye, lt_add_right->Yo, le_succ_of_le->Yh, min_le_right->Yr, le_of_ble_eq_true->Ys, lt_add_of_pos_right->Yb
open Bool renaming and_eq_true_iff->Qh, false_ne_true->QF, not_eq_true'->QS, and_eq_true->QW, eq_iff_iff->KM, and_false->WI, true_and->WP, and_true->Yl, or_eq_true_iff->Wv, or_eq_true->Yv, eq_false_iff->Yi
open PySem.Heap renaming lt_size->QJ, get?_push_of_some->Qw, get?_push_size->QN, SameBut->KP, size_push->KL, get?_update_self->Kg, get?_update_other->KC, get?_none_of_le->WK
open Int renaming le_trans->QP, le_refl->QZ, add_zero->Ka, ofNat_lt->Kf, not_lt->KG, natCast_nonneg->QU, ofNat_le->Kw, add_comm->KO, add_assoc->KR, toNat_lt->KV, sub_eq_add_neg->Ks, zero_add->Wi, lt_of_lt_of_le->Ky, ofNat_inj->Wp, sub_zero->WJ, sub_sub->WV, le_add_of_nonneg_right->Kr, le_antisymm->Wz, add_sub_assoc->WE, sub_self->Yx, le_of_lt->Yy, sub_add_cancel->WX, toNat_of_nonneg->WR, add_nonneg->YA, sub_nonneg_of_le->WL
open Option renaming bind_eq_some_iff->Qr, map_eq_some_iff->Qs, map->Wn, isNone_iff_eq_none->Kd, bind_some->KY, map_some->We
open Array renaming getElem?_eq_getElem->KJ, getElem?_eq_some_iff->KB, getElem?_eq_none->Wk, getElem?_setIfInBounds_self_of_lt->Wd
open PySem renaming wpAny_bind->YD, wpAny_pure->YE, wpAny_mono->YF, wpAny_field->YG, wpAny_holding->YH, wpAny_standAt->YI, wpAny_call_entry->YJ
set_option Elab.async false
set_option maxRecDepth 100000
set_option maxHeartbeats 0
set_option autoImplicit true
set_option relaxedAutoImplicit true
open Option renaming some->Ja, none->Jb
open Bool renaming true->Jc, false->Jd
open PySem
open PySem renaming Shared->Je,Value->Jf,Addr->Jg,wpAny->Jh,Heap->Ji,Around->Jj,Scope->Jk,Expr->Jl,World->Jm,Program->Jn,Stmt->Jo,Obj->Jp,Str->Jq,FuncData->Jr,Env->Js,model->Jt,truthy->Ju,mem_of_lookup->Jv,eval->Jw,rawInt->Jx,wpAny_loadPart_at->Jy,call_isinstance->Jz,mainGlobals->JA,wpAny_newObj_type->JB,wpAny_callSpecial?_slot->JC,sysModules->JD,starEach->JE,excClassObj->JF,wpAny_setField->JG,behindInMarks->JH,wpAny_dictEntries->JI,wpAny_isInstance->JJ,wpAny_Constant_none->JK,sizeLine->JL,wpAny_execs_nil->JM,entryOfKey->JN,assignEach->JO,DictEntry->JP,cellsFrom->JQ,isSubtype_type->JR,foldedSetIterable->JS,swapsWith->JT,setFlight->JU,wpAny_typeNameOfWhole_keyiter->JV,sizeLine_eq->JW,NameKind->JX,backTo->JY,wpAny_isTrue_BoolOp->JZ,typeLookup->J0,recursionLimit->J1,OwnTail->J2,keywordEach->J3,ExceptHandler->J4,wpAny_execs_cons->J5,wpAny_Name->J6,wpAny_allTrue_And_cons->J7,size_of_entries->J8,isinstance_true->J9,wpAny_notOrdered_dict->YK,wpAny_allTrue_Or_cons->YL,wpAny_isTrue_Compare1->YM,pyIter->YN,PyData->YO,wpAny_loadName_local->YQ,IsPair->YR,compareOp->YS,isSubtype->YT,wpAny_isSubtype_exc->YU,atKey->YV,wpAny_setSeqItemAt->YW,bootBuiltins->YX,bindArgs->YY,plainObj_wpAny_Assign_Attribute->YZ,checkBuiltinCall->Y0,treeTable->Y1,pushCells->Y2,isTrue->Y3
noncomputable section
namespace Vl.Internal
theorem Y4{p:Prop}[Decidable p](h:p):decide p=Jc:=decide_eq_true h
theorem Y5{p:Prop}[Decidable p](h:¬p):decide p=Jd:=decide_eq_false h
theorem Y6{p:Prop}[Decidable p](h:decide p=Jc):p:=of_decide_eq_true h
theorem Y7{c:Prop}{h:Decidable c}(k:¬c){α:Sort _}{t e:α}:ite c t e=e:=if_neg k
theorem Y8{c:Prop}{h:Decidable c}(k:c){α:Sort _}{t e:α}:ite c t e=t:=if_pos k
theorem Y9{α:Type _}[BEq α][LawfulBEq α]{a b:α}(h:(a==b)=Jc):a=b:=eq_of_beq h
theorem Ua{p:Prop}[Decidable p]:(decide p=Jc)=p:=decide_eq_true_eq
theorem Ub{α:Sort _}{β:Sort _}{a b:α}(f:α->β)(h:a=b):f a=f b:=congrArg f h
inductive X2{α β:Type}(P:α->β->Prop):Prop
 |mk (a:α) (b:β) (h:P a b):X2 P
inductive X3{α β γ:Type}(P:α->β->γ->Prop):Prop
 |mk (a:α) (b:β) (c:γ) (h:P a b c):X3 P
inductive X4{α β γ δ:Type}(P:α->β->γ->δ->Prop):Prop
 |mk (a:α) (b:β) (c:γ) (d:δ) (h:P a b c d):X4 P
inductive X5{α β γ δ ε:Type}(P:α->β->γ->δ->ε->Prop):Prop
 |mk (a:α) (b:β) (c:γ) (d:δ) (e:ε) (h:P a b c d e):X5 P
inductive X6{α β γ δ ε ζ:Type}(P:α->β->γ->δ->ε->ζ->Prop):Prop
 |mk (a:α) (b:β) (c:γ) (d:δ) (e:ε) (f:ζ) (h:P a b c d e f):X6 P
inductive A3(a b c:Prop):Prop
 |mk (p:a) (q:b) (r:c):A3 a b c
inductive A4(a b c d:Prop):Prop
 |mk (p:a) (q:b) (r:c) (s:d):A4 a b c d
inductive A5(a b c d e:Prop):Prop
 |mk (p:a) (q:b) (r:c) (s:d) (t:e):A5 a b c d e
inductive A6(a b c d e f:Prop):Prop
 |mk (p:a) (q:b) (r:c) (s:d) (t:e) (u:f):A6 a b c d e f
inductive A8(a b c d e f g h:Prop):Prop
 |mk (p:a) (q:b) (r:c) (s:d) (t:e) (u:f) (v:g) (w:h):A8 a b c d e f g h
theorem ns{L:Type _}{a:L}{P:Prop}(h:Jb=Ja a):P:=by cases h
theorem sn{L:Type _}{a:L}{P:Prop}(h:Ja a=Jb):P:=by cases h
theorem bQ{L:Type _}{a:L}{P:Prop}(h:a∈([]:List L)):P:=by cases h
theorem ft{P:Prop}(h:Jd=Jc):P:=by cases h
theorem tf{P:Prop}(h:Jc=Jd):P:=by cases h
theorem sj{L:Type _}{a b:L}(h:Ja a=Ja b):a=b:=Option.some.inj h
theorem wn{L:Type}{M:Model}{A:Jj}{c:Prop}[i:Decidable c]{a b:Sem L}{Q:L->Je->Prop}{E:Jf->Je->Prop}{s:Je}(C:¬c)(h:Jh M A b Q E s):Jh M A (if c then a else b) Q E s:=by rw[Y7 C];exact h
theorem wy{L:Type}{M:Model}{A:Jj}{c:Prop}[i:Decidable c]{a b:Sem L}{Q:L->Je->Prop}{E:Jf->Je->Prop}{s:Je}(C:c)(h:Jh M A a Q E s):Jh M A (if c then a else b) Q E s:=by rw[Y8 C];exact h
theorem zle{a b c:Nat}(h:a<=b)(k:b<=c):a<=c:=Qv h k
theorem zl{a b c:Nat}(h:a<=b)(k:b<c):a<c:=QX h k
theorem zll{a b c:Nat}(h:a<b)(k:b<=c):a<c:=QK h k
theorem zq{a b c:Nat}(h:a<b)(k:b=c):a<c:=Nat.lt_of_lt_of_eq h k
theorem zs(h:a<b+1):a<=b:=Wg h
theorem zb1(h:a<=b)(k:Nat.ble (b+1) c=Jc):a<c:=QX h<|Ys k
theorem zb2(h:a<=b)(k:Nat.ble b c=Jc):a<=c:=Qv h<|Ys k
theorem zim(n:Nat): -1000000<(n:Int):=Ky (by decide)<|QU n
theorem zip'{a b:Nat}(h:a<=b)(k:b<=1000000:=by decide):(a:Int)<=1000000:=Kw.mpr<|Qv h k
theorem zk1{a b c d e:Nat}(i:a<=8)(N:b<=8)(p:c+d=17)(J:e<=a+b)(h:(d:Int)<e):c=c-1+1:=by
 cases c with
 |zero=>exact absurd (QK (Kf.mp h)<|Qv J (Kh i N))<|by rw[show d=17 from(Wx d).symm.trans p];decide
 |succ c=>rfl
theorem ztn{x a y:Int}(h:x>0)(k:1<=a)(e:y=x-a):y.toNat<x.toNat:=(Int.toNat_lt_toNat h).mpr (by rw[e];exact Int.sub_lt_self x<|Ky (by decide) k)
theorem zg1{a b c:Int}(h:a-b=0-c):a+c=b:=by rw[Int.zero_sub] at h;rw[<-Int.sub_neg,<-h,Int.sub_sub_self]
theorem zg2{a b c:Int}(h:a-b=c-0):a=b+c:=by rw[WJ] at h;rw[<-h,KO,WX]
theorem zg3{r n x a:Int}(e:n=x+a)(k:1<=a)(h:n<=r):(r-n).toNat<(r-x).toNat:=ztn (Int.sub_pos_of_lt<|Ky (e▸Int.lt_add_of_pos_right x (Ky (by decide) k)) h) k<|by rw[e,WV]
theorem zg4(h:a+ -x=b+0):x=a-b:=by rw[Ka] at h;rw[<-h,<-Ks,Int.sub_sub_self]
theorem zh1(h:y<8):(8*x+y) / 8=x:=by rw[Nat.mul_add_div (by decide),Nat.div_eq_of_lt h,Nat.add_zero]
theorem zh2(h:y<8):(8*x+y) % 8=y:=by rw[Nat.mul_add_mod,Nat.mod_eq_of_lt h]
theorem zh3(h:x<8)(k:y<8):8*x+y<64:=QK (Nat.add_lt_add_left k<|8*x)<|WQ 8 (Nat.succ_le_of_lt h)
theorem zr1{a b c d:Int}(h:a+b=c):a+d+(b-d)=c:=by rw[KR,<-WE,KO d b,Int.add_sub_cancel];exact h
theorem zr2{a b c:Int}(h:a+b=c):a+0+b=c:=by rw[Ka];exact h
theorem zr4(h:a+b+2<c):a+1+b<c:=QX (Qv (QT<|QL a 1 b)<|WD _) h
theorem zr5(a b:Int):a+(b-a)=b:=by rw[KO,WX]
theorem zr6(h:a+30*(b+1)+300<c):a+3+30*b+300<c:=QX (Kk (by rw[QL];exact KI (by decide:3<=30)<|a+30*b) 300) h
theorem zr8(a b c d:Int):a+b+(c+d)=a+c+(b+d):=by rw[KR,Int.add_left_comm b,<-KR]
theorem zr9{a b:Int}(h:a>0):0<b+a-b:=by rw[KO,Int.add_sub_cancel];exact h
theorem zr10(a b c:Int):a+b+c=a+(c+b*1):=by rw[Int.mul_one,KR,KO b]
theorem zr11{a b c:Int}(h:0<=a)(k:¬a>0)(e:b+a=c):c=b:=by rw[<-e,Wz (KG.mp k) h,Ka]
theorem zr12(a b c:Int):a+b+(c+0)=a+c+b:=by rw[Ka,Int.add_right_comm]
theorem zr14(a b c d:Int):a+b-(c+d)=a-c+(b-d):=by rw[<-WV,WE,Ks,Ks,Ks,Ks];exact(Ub (· + -d) (by rw[KR,KO b,<-KR]:a+(b+ -c)=a+ -c+b)).trans (KR _ _ _)
theorem zmn{a b c d:Nat}(h:a+100<b)(k:c<=50):a+min c d<b:=QX (KI (Qv (Nat.min_le_left _ _)<|Qv k (by decide)) _) h
theorem zmn2{a b c d:Nat}(h:a+100<b)(k:c<=50):a+min c d+2<b:=QX (Kh (KI (Qv (Nat.min_le_left c d) k) a) (by decide:2<=50)) h
theorem zpr(h:a<b):b=b-1+1:=(Nat.sub_add_cancel<|QX (QV _) h).symm
theorem zng{a n:Int}(h:¬0<=a):a+n<n:=by have:=Int.add_lt_add_right (Int.not_le.mp h) n;rw[Wi] at this;exact this
theorem zi1{n:Nat}{k:Int}(h:n<=10000000)(b:k<n):k<2^63:=Ky b<|QP (Kw.mpr h) (by decide)
theorem zi2{n:Nat}{k:Int}(h:n<=10000000)(b: -(n:Int)<=k): -(2^63)<=k:=QP (Int.neg_le_neg<|QP (Kw.mpr h) (by decide:((10000000:Nat):Int)<=2^63)) b
theorem zi3{n:Nat}(h:n<=1000000):(n:Int)<2^63:=Int.lt_of_le_of_lt (Kw.mpr h)<|by decide
theorem zw1{a b c:Int}(h:a-b=c-1):a+1-b=c-0:=by rw[KO,WE,h,KO,WX,WJ]
theorem zw2{a b c:Int}(h:a-b=c):a+0-b=c:=by rw[Ka];exact h
theorem zw3{a b c:Int}(h:a-b=c-0):a-(b+1)=c-1:=by rw[<-WV,h,WJ]
theorem zw4{a b c:Int}(h:a-b=c):a-(b+0)=c:=by rw[Ka];exact h
theorem zw5{a b c:Int}(h:a-b=0-c):a+1-b=1-c:=by rw[KO,WE,h,<-WE,Ka]
theorem zw7{a b c:Int}(h:a-b=1-c):a-(b+1)=0-c:=by rw[<-WV,h,WV,KO,<-WV,Yx]
theorem zrs(n:Int):(if 0<n then n-0 else 0)=(n.toNat:Int):=by
 by_cases h:0<n
 ·rw[Y8 h,WJ,WR (Yy h)]
 ·rw[Y7 h,Int.toNat_of_nonpos (KG.mp h)];rfl
set_option genCtorIdx false in
set_option genInjectivity true in
inductive KA where
 |n(i:Int)
 |t(s:String)
noncomputable abbrev KA.ctorIdx(x:KA):Nat:=KA.casesOn x (λo0=>0) (λo0=>1)
deriving instance DecidableEq for KA
theorem ofString_inj(h:Qb x=Qb y):x=y:=by
 rw[Str.ofString_eq_toList,Str.ofString_eq_toList] at h;have N:x.toList.map Char.toNat=y.toList.map Char.toNat:=by
  have:=Ub (λs:Jq=>s.cps.toList) h
  simpa using this
 have i:Function.Injective Char.toNat:=λa b e=>by
  have:a.val=b.val:=UInt32.toNat_inj.mp e;exact Char.ext this
 have p:x.toList=y.toList:=by
  have:∀ (l m:List Char),l.map Char.toNat=m.map Char.toNat->l=m:=by
   intro l
   induction l with
   |nil=>intro m e;induction m using List.casesOn with|nil=>rfl|cons=>cases e
   |cons a r W=>intro m e;induction m using List.casesOn with|nil=>cases e|cons b q=>simp only[Qq,List.cons.injEq] at e;rw[i e.1,W q e.2]
  exact this _ _ N
 exact String.toList_inj.mp p
noncomputable def kaIs:KA->Jf->Bool
 | .n i,v=>Value.isInt i v
 | .t s,v=>Value.isStrOf (Qb s) v
theorem f8(h:kaIs (.n i) v=Jc):∃t,v= .int i t:=Value.isInt_shape h
theorem gj(h:kaIs (.t s) v=Jc):∃t,v= .str (Qb s) t:=Value.isStrOf_shape h
theorem uC(i:Int)(t:Tok):kaIs (.n i) (.int i t)=Jc:=by simp[kaIs,Value.isInt]
theorem sQ(s:String)(t:Tok):kaIs (.t s) (.str (Qb s) t)=Jc:=by simp[kaIs,Value.isStrOf]
def mk(prog:Jn)(w:Jm):KeyKind prog w KA where
 is:=kaIs
 hash:=λk=>match k with
  | .n i=>hashInt i
  | .t s=>hashStr w<|Qb s
 inj:=λv a b T R=>by
  induction a with
  |n i=>
   obtain⟨t,rfl⟩:=f8 T
   induction b with
   |n j=>obtain⟨u,e⟩:=f8 R;cases e;rfl
   |t s=>obtain⟨u,e⟩:=gj R;cases e
  |t s=>
   obtain⟨t,rfl⟩:=gj T
   induction b with
   |n j=>obtain⟨u,e⟩:=f8 R;cases e
   |t G=>obtain⟨u,e⟩:=gj R;injection e with e;rw[ofString_inj e]
 byValue:=λk v h=>by
  induction k with
  |n i=>obtain⟨t,rfl⟩:=f8 h;rfl
  |t s=>obtain⟨t,rfl⟩:=gj h;rfl
 pyHash:=λ{A E s k v Q} hv h=>by
  induction k with
  |n i=>obtain⟨t,rfl⟩:=f8 hv;exact wpAny_pyHash_int h
  |t x=>obtain⟨t,rfl⟩:=gj hv;exact wpAny_pyHash_str h
 eqBool:=λ{A E s a b u v Q} p hv h=>by
  induction a with
  |n i=>
   obtain⟨t,rfl⟩:=f8 p
   induction b with
   |n j=>
    obtain⟨g,rfl⟩:=f8 hv;refine wpAny_eqBool_int ?_;have e:(i==j)=decide (KA.n i=KA.n j):=by rw[KM];simp
    rw[e];exact h
   |t y=>obtain⟨g,rfl⟩:=gj hv;exact SeqAt.EqAt.int_str i t _ g prog w E Q<|by rw[Y5 (λe=>by cases e)] at h;exact h
  |t x=>
   obtain⟨t,rfl⟩:=gj p
   induction b with
   |n j=>obtain⟨g,rfl⟩:=f8 hv;exact SeqAt.EqAt.str_int _ t j g prog w E Q<|by rw[Y5 (λe=>by cases e)] at h;exact h
   |t y=>
    obtain⟨g,rfl⟩:=gj hv;refine wpAny_eqBool_str ?_;have e:decide (Qb x=Qb y)=decide (KA.t x=KA.t y):=decide_eq_decide.mpr ⟨λe=>by rw[ofString_inj e],λe=>by cases e;rfl⟩;rw[e];exact h
 «strs»:=λk x t v h=>by
  induction k with
  |n i=>obtain⟨g,e⟩:=f8 h;cases e
  |t s=>obtain⟨g,e⟩:=gj h;injection e with e;subst e;rcases v with⟨⟩<;>rfl
abbrev tk(prog:Jn)(w:Jm):HeapKind prog w (List KA):=tupleKind<|mk prog w
section
variable{prog:Jn}{w:Jm}{K:Type}[DecidableEq K]{knd:HeapKind prog w K}{A:Jj}{E:Jf->Je->Prop}{s:Je}
theorem iJ{d a:Jg}{xs:List (K×Jg×Jf)}{Q:Jf->Je->Prop}(X:knd.room A)(h:knd.is s.heap k a)(m:s.heap.DictOfH knd d xs)
  (N:∀p,YV xs k=Ja p->Q p.2 {s with toks:=s.toks+knd.draws k})
  (Y:YV xs k=Jb->∀S,S.DictOfH knd d (xs++[(k,a,v)])->KP d s.heap S->Q v {s with heap:=S,toks:=s.toks+knd.draws k})
  (hsz:xs.length<=JL):Jh (Jt prog w) A (dictSetDefault d (.ref a) v) Q E s:=by
 obtain⟨o,U,I,T,c,q,O,i,g⟩:=m;unfold dictSetDefault
 try with_reducible refine YH ?_
 refine YD<|knd.pyHash X h ?_;refine YD<|wpAny_dictFind_heap (s:={s with toks:=s.toks+knd.draws k}) X h T q O i g ?_ ?_
 ·intro u;have n:k∉xs.map (·.1):=not_mem_keys_of_get u;refine YD (wpAny_rule (YD (wpAny_updateDictKeys (hz:=by have e:=J8 O;exact zle (QT e) hsz) (s:={s with toks:=s.toks+knd.draws k}) T q (YE (Y (atKey_none_of_get u) _ ⟨_,_,I+1,Kg _ T (Obj.isFreed_of_dict (Obj.data_mapDictKeys q _)),
   c.mapDictKeys _,Obj.data_mapDictKeys q _,?_,?_,?_⟩ (KP.update ..))))))
  ·simp[O,JN]
  ·intro x hx
   rcases Qn.mp hx with hx|hx
   ·exact knd.keeps (i x hx) T q<|KP.update ..
   ·simp only[Qk] at hx;subst hx;exact knd.keeps h T q<|KP.update ..
  ·rw[QD,Qo];refine⟨g,by simp,?_⟩;intro x hx y W;simp only[Qq,Wj,Qk] at W;subst W;exact λe=>n<|e▸hx
 ·intro j p H;refine YD<|wpAny_dictEntries (s:={s with toks:=s.toks+knd.draws k}) T q ?_;rw[entry_at O j,H];exact YD<|wpAny_rule (YE<|N p (atKey_of_get g H))
theorem jV{d a:Jg}{xs:List (K×Jg×Jf)}{Q:Jf->Je->Prop}(u:knd.room A.in1)(e:knd.is s.heap k a)(q:(d==JD)=Jd)(m:s.heap.DictOfH knd d xs)
  (N:∀p,YV xs k=Ja p->Q p.2 {s with toks:=s.toks+knd.draws k})
  (Y:YV xs k=Jb->∀h,h.DictOfH knd d (xs++[(k,a,v)])->KP d s.heap h->Q v {s with heap:=h,toks:=s.toks+knd.draws k})
  (hsz:xs.length<=JL):Jh (Jt prog w) A (call (.builtin "dict.setdefault") [.ref d,.ref a,v]) Q E s:=by
 refine YJ F.slot_dict_setdefault m.typeIs F.entry_dict_setdefault ?_<|F.args_dict_setdefault_3 _ _ _;unfold Builtin.«dict.setdefault»;refine YD ?_;unfold Builtin.Dict.keyAndDefault;refine YD<|wpAny_notOrdered_dict m.typeIs ?_;show Jh _ _ (pure (d,Value.ref a,Ja v)) _ _ s;refine YE ?_;refine wn (c:=(d==JD)=Jc) (by rw[q];exact QF) ?_;exact YD<|iJ u e m (λp D=>YE ⟨_,rfl,N p D⟩) (λo h n H=>YE ⟨_,rfl,Y o h n H⟩) hsz
def RawD(h:Ji)(d:Jg)(es:Array JP)(ep:Nat):Prop:=∃o,h.get? d=Ja o/\o.ExactDict/\o.data= .dict es ep
theorem RawD.typeIs{d:Jg}(x:RawD s.heap d es ep):s.TypeIs (.ref d) "dict":=by obtain⟨o,h,c,o0⟩:=x;exact⟨o,h,c.1⟩
theorem RawD.at{h S:Ji}{d:Jg}(x:RawD h d es ep)(k:∀o,h.get? d=Ja o->S.get? d=Ja o):RawD S d es ep:=by obtain⟨o,T,r⟩:=x;exact⟨o,k o T,r⟩
theorem qd{d:Jg}{es:Array JP}{Q:Jf->Je->Prop}(v:(d==JD)=Jd)(m:RawD s.heap d es ep)
  (X:Q (.ref s.heap.objs.size) {s with heap:=s.heap.push {cls:= .type "dict_keyiterator",data:= .fields #[.ref d,.int 0 0,.int es.size 0,.int ep 0]}}):
  Jh (Jt prog w) A (YN<|.ref d) Q E s:=by
 obtain⟨o,a,c,h⟩:=id m;have T:s.TypeIs (.ref d) "dict":=m.typeIs;refine wpAny_pyIter_slot T F.slot_dict_iter<|YJ F.slot_dict_iter T F.entry_dict_iter ?_ (F.args_dict_iter_1 _);unfold Builtin.«dict.__iter__»;refine YD ?_;unfold Builtin.Dict.dictSlotNone;refine YD<|wpAny_notOrdered_dict T ?_;show Jh _ _ (pure<|Value.ref d) _ _ s;refine YE ?_;show Jh _ _ (Builtin.Dict.showsAll d>>=_) _ _ s;unfold Builtin.Dict.showsAll;refine YD<|wn (by rw[v];exact QF) (YE ?_);refine YD<|wpAny_dictEntries a h ?_;refine YD<|wpAny_dictEpoch a h ?_;refine YD<|wpAny_newObj_type (YE ⟨_,rfl,"dict_keyiterator",_,⟨_,QN _ rfl,rfl⟩,F.slot_dict_keyiterator_next.lookup,?_⟩)
 simpa [Jx] using X
theorem kv{t d:Jg}{es:Array JP}{Q:Option Jf->Je->Prop}(U:A.handled=Jb)(h:s.heap.IsKeyIter t d i es.size ep)(C:RawD s.heap d es ep)
  (q:∀e,es[i]? =Ja e->∀S,S.IsKeyIter t d (i+1) es.size ep->KP t s.heap S->Q (Ja e.key) {s with heap:=S})
  (p:es[i]? =Jb->∀S,Heap.ExtBut t s.heap S->Q Jb {s with heap:=S}):Jh (Jt prog w) A (pyNext<|.ref t) Q E s:=by
 obtain⟨o,x,Z,v⟩:=id h;obtain⟨n,Y,W,I⟩:=id C;unfold pyNext;refine YD (wpAny_attempt (JC (name:=Qb "__next__") h.typeIs F.slot_dict_keyiterator_next
  (YJ F.slot_dict_keyiterator_next h.typeIs F.entry_dict_keyiterator_next ?_ (F.args_dict_keyiterator_next_1 _))))
 refine YD<|YE ?_;refine YD ?_;refine YD ?_;refine YD<|wpAny_typeNameOfWhole_keyiter h.typeIs (YE ?_);refine YD<|wpAny_fieldsOf x v ?_;refine wn (c:=(Value.ref d==Value.none)=Jc) QF ?_;refine YD<|YE ?_;refine YD<|wpAny_dictEntries Y I ?_;refine wn (c:=((es.size:Int) !=es.size)=Jc) (by simp) ?_;refine YD<|YE ?_;refine YD<|wpAny_dictEpoch Y I ?_;refine wn (c:=((ep:Int) !=ep)=Jc) (by simp) ?_;refine YE ?_;by_cases N:i<es.size
 ·have u:(if(i:Int)<0 then Jb else es[(i:Int).toNat]?)=Ja es[i]:=(Y7<|KG.mpr (QU i)).trans (KJ N);dsimp only;rw[u];refine YD ?_;refine YD<|wpAny_typeNameOfWhole_keyiter h.typeIs (YE ?_);refine YD<|wpAny_isOneOf_keyiter h.typeIs ?_;show Jh _ _ (setField (.ref t) 1 (Jx<|(i:Int)+1)>>=_) _ _ s;refine YD<|wpAny_setField x v (by simp) ?_;have l:(s.heap.update t (Obj.mapFields (·.setIfInBounds 1 (Jx<|(i:Int)+1)))).IsKeyIter t d (i+1) es.size ep:=
   ⟨_,Kg _ x<|Obj.isFreed_of_fields (Obj.data_mapFields v _),(Obj.cls_mapFields ..).trans Z,by rw[Obj.data_mapFields v];simp[Jx]⟩
  refine YD<|YH ?_;refine YD (wpAny_isOneOf_keyiter (s:={s with heap:=s.heap.update t (Obj.mapFields (·.setIfInBounds 1 (Jx<|(i:Int)+1)))}) l.typeIs ?_);show Jh _ _ (pure es[i].key) _ _ _;exact YE<|YE ⟨_,rfl,YE<|q _ (KJ N) _ l (KP.update ..)⟩
 ·have g:es.size<=i:=Kc.mp N;have u:(if(i:Int)<0 then Jb else es[(i:Int).toNat]?)=Jb:=(Y7<|KG.mpr (QU i)).trans (Wk g);dsimp only;rw[u];refine YD ?_;refine YD<|wpAny_typeNameOfWhole_keyiter h.typeIs (YE ?_);refine YD<|wpAny_setField (i:=0) x v (by simp) ?_;refine YD ?_;unfold newExc newTuple;refine YD<|wpAny_newObj_type ?_ (by size_fits);refine YD (m:=firstArgMember _ _)<|wpAny_of_eq (a:=Value.none) (by first|rfl|(simp only[firstArgMember];rfl)) ?_;refine JB ?_ (by size_fits);unfold raiseNew;refine YD<|wpAny_handled ?_;rw[show A.in1.handled=Jb from U];refine YD<|YE (wpAny_throw ?_);refine YD<|wpAny_isInstance (T:="StopIteration") (b:=Jc) ⟨_,QN _ rfl,rfl⟩ isSubtype_stop ?_;exact YE<|p (Wk g) _ (((KP.update ..).extBut.push _).push _)
theorem rF(U:A.handled=Jb)(g d:Jg)(n:d≠g)(es:Array JP)(ep:Nat):
  Walks prog w A g [g,d] [g] es.size (λi v=>∃e,es[i]? =Ja e/\v=e.key) (λi h=>h.IsKeyIter g d i es.size ep/\RawD h d es ep) where
 sub:=λb R=>by simp at R;simp[R]
 frame:=λo0 o0 o0 t k=>⟨by obtain⟨o,T,r⟩:=t.1;exact⟨o,k g (by simp) o T,r⟩,t.2.at λo e=>k d (by simp) o e⟩
 item:=λi s Q E V t X=>kv U t.1 t.2 (λe O S j H=>X _ S s.toks ⟨e,O,rfl⟩ ⟨j,t.2.at λo x=>H.extBut d o n x⟩ λb o R x=>H.extBut b o (λh=>R<|by simp[h]) x)
  (λq=>by exact sn<|(KJ V).symm.trans q)
 done:=λs Q E t X=>kv U t.1 t.2 (λe O=>by simp at O) λo0 S H=>X S s.toks λb o R x=>H b o (λh=>R<|by simp[h]) x
 self:=λo0 o0 o0 o0 t X=>by
  obtain⟨o,T,c,W⟩:=t.1;exact wpAny_pyIter_slot ⟨o,T,c⟩ F.slot_dict_keyiterator_iter<|YJ F.slot_dict_keyiterator_iter ⟨o,T,c⟩ F.entry_dict_keyiterator_iter (YE ⟨_,rfl,_,_,⟨o,T,c⟩,F.slot_dict_keyiterator_next.lookup,X⟩) (F.args_dict_keyiterator_iter_1 _)
theorem w5{d:Jg}{es:Array JP}(l:(d==JD)=Jd):W.KdlSrc prog w "dict" d d es.size (λi v=>∃e,es[i]? =Ja e/\v=e.key) (λh=>RawD h d es ep) where
 type:=λo0 m=>m.typeIs
 there:=λo0 m=>by obtain⟨o,T,o0⟩:=m;exact⟨QJ T,QJ T⟩
 keep:=λo0 o0 m k=>m.at λo e=>k d (.inl rfl) o e
 notList:=by decide
 notTuple:=by decide
 hint:=λo0 o0 o0 o0 m q=>W.kdl_hint_dict m.typeIs q
 iter:=λo0 o0 U m=>⟨_,_,(λo0 o0 q=>qd l m q),rF U _ d (by obtain⟨o,T,o0⟩:=m;exact KU<|QJ T) es ep,⟨⟨_,QN _ rfl,rfl,rfl⟩,m.at λo e=>Qw _ e⟩⟩
end
section
open PySem.W
noncomputable abbrev bmE:List Jf:=[.type "ValueError",.type "Exception",.type "BaseException",.type "object"]
theorem oo(T:J2 h bmE bm)(self:Jf):refuseLoop self "__setattr__" bm=pure ():=by
 induction T with
 |base=>exact F.store_ValueError.passes self
 |own _ _ _ _ i=>rw[refuseLoop_ref];exact i
section
variable{prog:Jn}{w:Jm}{A:Jj}{E:Jf->Je->Prop}{h:Ji}{g:Array GenState}{d:Drawn}{t:Nat}{os:OsState}
variable{nm q:Jq}{C N x:Jg}{bs bm:List Jf}{sn:List Jq}{sub:List Jf}{ab:Bool}{col:Option Bool}{dd:Option Jg}{k0 k1 k2 k3 k5:Option Jf}{newId:String}
 {mA:Jq->Option Jf} {name:Jq} {v:Jf}
structure Stored(h h':Ji)(x C:Jg)(name:Jq)(v:Jf)(mA:Jq->Option Jf):Prop where
 inst:h'.Inst x C (λy=>if y=name then Ja v else mA y)
 keep:∀b o,b≠x->(∀o₀ dx,h.get? x=Ja o₀->o₀.dict=Ja dx->b≠dx)->h.get? b=Ja o->h'.get? b=Ja o
 obj:∀o₀,h.get? x=Ja o₀->∃o₁,A5 (h'.get? x=Ja o₁) (o₁.cls=o₀.cls) (o₁.data=o₀.data) (o₁.slots=o₀.slots) (∀dx,o₀.dict=Ja dx->o₁.dict=Ja dx)
 fresh:∀o₁ dx,h'.get? x=Ja o₁->o₁.dict=Ja dx->h.get? dx=Jb\/∃o₀,h.get? x=Ja o₀/\o₀.dict=Ja dx
theorem tB{id o nm:String}{self:Jf}{Q:Unit->Je->Prop}{E:Jf->Je->Prop}(k:builtinKind id=Ja .slot)(H:splitId id=Ja (o,nm))(T:argsOk id ⟨self::rest,[]⟩)
  (hi:Jh M A (isInstance self<|.type o) (λb s'=>b=Jc/\Q () s') E s):Jh M A (Y0 id ⟨self::rest,[]⟩) Q E s:=by
 simp only[Y0,k,H];refine YD (YF hi (λb s' h=> ?_) λo0 o0 h=>h);obtain⟨rfl,h⟩:=h;refine wn QF ?_
 induction i:Manifest.signature? id with
 |none=>exact YE h
 |some y=>
  simp only[argsOk,i] at T;exact wpAny_of_eq (a:=()) T h
theorem Ac{tk:Tok}{Q:Fin->Je->Prop}{ns:List Jq}(T:J2 h bmE bm)
  (hC:h.get? C=Ja (JF nm q C N bs bm Jc sn sub ab col dd k0 k1 k2 k3 k5 newId))(L:Looks (Jt prog w) h (J0 (.ref C) name) Jb)
  (I:h.Inst x C mA)(hq:∀S J,Stored h S x C name v mA->Q (.done<|.ret .none) ⟨S,g,d,J,os⟩)(hw:Within mA ns)(hsz:ns.length<=JL):
  Jh (Jt prog w) A (Builtin.«object.__setattr__» ⟨[.ref x,.str name tk,v],[]⟩) Q E ⟨h,g,d,t,os⟩:=by
 obtain⟨o,hx,hc,R,hd⟩:=I;have a:=oo T<|.ref x;unfold Builtin.«object.__setattr__»
 repeat (first|rw[refuse_eq]|(rw[refuseLoop_ref,a])|(with_reducible refine Jy hx ?_;rw[hc])|with_reducible refine wpAny_mroOf_exc hC ?_|with_reducible refine L.at ?_|wp_step)
 rcases hd with⟨H,aa⟩|⟨l,K,Z,V⟩
 ·rw[H,Y7 (by simp[typeHasDict])]
  split
  ·rename_i W
   cases W
  split
  ·rename_i c W
   exact absurd W<|R c
  ·have j:(h.push {cls:= .type "dict",data:= .dict #[]}).get? x=Ja o:=Qw _ hx;have z:x≠h.objs.size:=KU<|QJ hx;refine YD<|wpAny_alloc' ?_;refine YD<|wpAny_update' j ?_;refine YE ?_;have G:((h.push {cls:= .type "dict",data:= .dict #[]}).update x λo=>{cls:=o.cls,dict:=Ja h.objs.size,data:=o.data,slots:=o.slots}).get? h.objs.size
     =Ja {cls:= .type "dict",data:= .dict #[]}:=
    (Heap.get?_update_ne _ _ _ _ z.symm).trans (Heap.get?_push_at rfl rfl)
   have P:((h.push {cls:= .type "dict",data:= .dict #[]}).update x λo=>{cls:=o.cls,dict:=Ja h.objs.size,data:=o.data,slots:=o.slots}).Ns h.objs.size (λo0=>Jb):=
    ⟨_,#[],_,G,rfl,λe he=>absurd he<|by simp,λo0=>rfl⟩
   show Jh _ _ (Builtin.ObjectAttr.storeInDict h.objs.size (.str name tk) name v) _ _ _;unfold Builtin.ObjectAttr.storeInDict Builtin.ObjectAttr.newKeyGuard;refine YD<|YE (YD<|wpAny_nsSet1 (Heap.Ns1.of_empty P) λS n s=> ?_);obtain⟨oD,Y,u,M,D,i⟩:=n.count<|Within.cons name v Within.nil;refine YD<|wpAny_lookBehind M (by rw[D];exact pastItsLine_dict<|Qv i (by rw[KW,WA,JW];decide)) ?_
   wp_walk
   have m:S.get? x=Ja {cls:=o.cls,dict:=Ja h.objs.size,data:=o.data,slots:=o.slots}:= ?_;refine hq S _ ⟨⟨{cls:=o.cls,dict:=Ja h.objs.size,data:=o.data,slots:=o.slots},m,hc,R,.inr ⟨h.objs.size,rfl,z.symm,?_⟩⟩,(λb ob X o0 B=> ?_),
    (λU k=>by obtain rfl:o=U:=Option.some.inj (hx.symm.trans k);exact⟨_,m,rfl,rfl,rfl,λl e=>by rw[H] at e;cases e⟩),λp l f F=>by rw[m] at f;cases f;cases F;exact .inl (WK (QA _))⟩
   ·obtain⟨o',es,ep,f,F,e3,eu,e4⟩:=n;exact⟨o',es,ep,f,F,e3,eu,λy=>by rw[e4 y];by_cases hy:y=name<;>simp[hy,aa]⟩
   ·exact(s.2 b<|KU (QJ B)).trans ((Heap.get?_update_ne _ _ _ _ X).trans (Qw _ B))
   ·refine(s.2 x z).trans (Kg _ j ?_);have ac:=(Heap.get?_some_iff.mp hx).2;obtain⟨oc,od,O,ad⟩:=o
    rcases O with⟨⟩<;>first|rfl|exact ac
 ·rw[K];refine YE ?_;show Jh _ _ (Builtin.ObjectAttr.storeInDict l (.str name tk) name v) _ _ _;unfold Builtin.ObjectAttr.storeInDict Builtin.ObjectAttr.newKeyGuard;refine YD<|YE (YD<|wpAny_nsSet1 V λS n s=> ?_);obtain⟨oD,Y,u,M,D,i⟩:=n.count<|Within.cons name v hw;refine YD (wpAny_lookBehind M (by rw[D];exact pastItsLine_dict<|Qv i (by rw[KW];exact KN hsz)) ?_)
  wp_walk
  refine hq S _ ⟨⟨o,(s.2 x Z.symm).trans hx,hc,R,.inr ⟨l,K,Z,n⟩⟩,(λb ob o0 r B=> ?_),
   (λU k=>⟨U,(s.2 x Z.symm).trans k,rfl,rfl,rfl,λo0 e=>e⟩),λp l f F=> .inr ⟨p,(s.2 x Z.symm).symm.trans f,F⟩⟩
  exact(s.2 b<|r o l hx K).trans B
theorem za{o:Jp}{Q:Unit->Je->Prop}(T:J2 h bmE bm)
  (i:h.get? C=Ja (JF nm q C N bs bm Jc sn sub ab col dd k0 k1 k2 k3 k5 newId))(hx:h.get? x=Ja o)(Z:o.cls= .ref C)(z:Q () ⟨h,g,d,t,os⟩):
  Jh M A (Y0 "object.__setattr__" ⟨[.ref x,n,v],[]⟩) Q E ⟨h,g,d,t,os⟩:=by
 have c:(Value.ref C::bm).contains (.type "object")=Jc:=by rw[Wa,T.hasType F.store_ValueError.hasOwner,Bool.or_true]
 have a:=F.store_ValueError.args (.ref x) n v;have k:=F.store_ValueError.kind;have s:=F.store_ValueError.split;refine tB (id:="object.__setattr__") (self:= .ref x) (rest:=[n,v]) k s a ?_;unfold isInstance
 repeat (first|(with_reducible refine Jy hx ?_;rw[Z])|(with_reducible refine YU i ?_;rw[c])|wp_step)
 exact⟨rfl,z⟩
theorem sg{Q:Unit->Je->Prop}{ns:List Jq}(T:J2 h bmE bm)
  (M:h.get? C=Ja (JF nm q C N bs bm Jc sn sub ab col dd k0 k1 k2 k3 k5 newId))(L:Looks (Jt prog w) h (J0 (.ref C) name) Jb)
  (s:Looks (Jt prog w) h (J0 (.ref C) "__setattr__") (Ja<|.builtin "object.__setattr__"))(I:h.Inst x C mA)
  (z:∀W k,Stored h W x C name v mA->Q () ⟨W,g,d,k,os⟩)(H:Within mA ns)(hsz:ns.length<=JL):
  Jh (Jt prog w) A (setAttr (.ref x) name v) Q E ⟨h,g,d,t,os⟩:=by
 obtain⟨o,hx,c,o0⟩:=id I;have f:=F.store_ValueError.slot.bind<|.ref x;unfold setAttr callSpecial? specialOf
 repeat (any_goals (first|assumption|(with_reducible refine Jy hx ?_;rw[c])|with_reducible refine s.at ?_|wp_step))
 refine codeAny_call_builtin F.store_ValueError.slot.plain F.store_ValueError.entry<|za T M hx c ?_;refine Ac T M L I (λW k S=> ?_) H hsz
 repeat (any_goals (first|assumption|wp_step))
 exact z W k S
end
end
theorem cps{G:Prop}(h:(G->False)->False):G:=Classical.byContradiction h
theorem bnx{P:Prop}(h:Jd=Jc):P:=by exact ft h
theorem onx{P:Prop}{L:Type}{x:L}(h:(Jb:Option L)=Ja x):P:=by exact ns h
set_option genCtorIdx false in
inductive PV where
 |none
 |bool(b:Bool)
 |int(i:Int)
 |str(s:String)
 |tup(l:List PV)
 |ref(a:Jg)
 |scr(l:List Int)
noncomputable abbrev PV.ctorIdx(x:PV):Nat:=PV.casesOn x 0 (λo0=>1) (λo0=>2) (λo0=>3) (λo0=>4) (λo0=>5) (λo0=>6)
set_option genCtorIdx false in
inductive PO where
 |list(l:List PV)
 |dict(ks:List (List KA))(l:List PV)
 |fd(c:String)(fs:List PV)
 |inst(d:Jg)
 |hid
noncomputable abbrev PO.ctorIdx(x:PO):Nat:=PO.casesOn x (λo0=>0) (λo0 o0=>1) (λo0 o0=>2) (λo0=>3) 4
noncomputable def PO.fixed:PO->Bool
 | .fd .. | .inst _| .hid=>Jc
 |_=>Jd
abbrev PH:=Jg->Option PO
noncomputable def PH.set(σ:PH)(a:Jg)(o:PO):PH:=λb=>if b=a then Ja o else σ b
theorem PH.set_same(σ:PH)(a:Jg)(o:PO):(σ.set a o) a=Ja o:=Y8 rfl
theorem PH.set_ne(σ:PH)(o:PO)(h:b≠a):(σ.set a o) b=σ b:=Y7 h
abbrev Rho:=List<|String×Option PV
noncomputable def Rho.get:Rho->String->Option PV
 |[],_=>Option.none
 |(y,v)::r,x=>if y=x then v else Rho.get r x
noncomputable def Rho.put:Rho->String->PV->Rho
 |[],_,_=>[]
 |(y,o)::r,x,v=>if y=x then(y,Ja v)::r else(y,o)::Rho.put r x v
theorem Rho.get_c(y:String)(v:Option PV)(r:Rho)(x:String):Rho.get ((y,v)::r) x=if y=x then v else Rho.get r x:=rfl
theorem Rho.put_c(y:String)(o:Option PV)(r:Rho)(x:String)(v:PV):Rho.put ((y,o)::r) x v=if y=x then(y,Ja v)::r else(y,o)::Rho.put r x v:=rfl
noncomputable def Rho.puts:Rho->List String->List PV->Rho
 |ρ,x::P,v::s=>Rho.puts (ρ.put x v) P s
 |ρ,_,_=>ρ
set_option genCtorIdx false in
inductive BOp where
 |add|sub|mul|fdiv|mod|pow(u:Unit)
set_option genCtorIdx false in
inductive COp where
 |eq|ne|lt|le|gt(u:Unit)|ge|in_|nin
set_option genCtorIdx false in
inductive BI where
 |len|all|sum|int|list|min|sorted|dict(u:Unit)|any|abs
inductive Me where
 |append
inductive IK where
 |val|range|zip
set_option genCtorIdx false in
inductive Tg where
 |name(x:String)
 |tup(l:List String)
noncomputable abbrev Tg.ctorIdx(x:Tg):Nat:=Tg.casesOn x (λo0=>0) (λo0=>1)
set_option genCtorIdx false
inductive E where
 |none
 |bool(b:Bool)
 |int(i:Int)
 |str(s:String)
 |loc(x:String)
 |glob(x:String)
 |bin(op:BOp)(a b:E)
 |not_(a:E)
 |and_(a b:E)
 |or_(a b:E)
 |isNone(a:E)
 |notNone(a:E)
 |cmp(op:COp)(a b:E)
 |cmp2(a:E)(o1:COp)(b:E)(o2:COp)(c:E)
 |tup(l:List E)
 |list(l:List E)
 |sub(a i:E)
 |comp(elt:E)(tg:Tg)(k:IK)(it:List E)
 |compIf(elt:E)(tg:Tg)(k:IK)(it:List E)(cond:E)
 |call(f:String)(args:List E)
 |bi(b:BI)(args:List E)
 |isi(a:E)(ts:List String)
 |meth(o:E)(m:Me)(args:List E)
 |dict0
 |get(a k:E)
 |sd(a k:E)
 |attr(x f:String)
 |mcall(c f:String)(o:E)(args:List E)
inductive S where
 |assign(tg:Tg)(e:E)
 |setIdx(o i e:E)
 |expr(e:E)
 |ret(e:E)
 |if_(t:E)(b o:List S)
 |for_(tg:Tg)(k:IK)(it:List E)(b:List S)
 |while_(t:E)(b:List S)
 |raise(c:String)(args:List E)
 |try1(b:List S)(c:String)(h:List S)
set_option genCtorIdx true
set_option genCtorIdx false in
inductive Fl where
 |next
 |ret(v:PV)
structure PX where
 c:String
 fs:List PV
abbrev Post:=PV->PH->Prop
abbrev XPost:=PX->PH->Prop
abbrev Cl:=String->List PV->PH->Post->XPost->Prop
structure Gx where
 glob:String->Option PV
 sub:String->String->Bool
 full:Bool
 fn:String->Bool
 calm:Bool
 cs:List String
 mks:List String
 inis:List String
 flds:String->List String
noncomputable def stat(s:List String):Bool:=s.length==1&&s.all λt=>["int","bool","list","tuple","dict"].contains t
noncomputable def Gx.un(G:Gx):Gx:={G with calm:=Jd}
noncomputable def lim:Nat:=1000000
def wnew(o:PO)(σ:PH)(Q:Post):Prop:=∀a,σ a=Jb->Q (.ref a) (σ.set a o)
noncomputable def kaOf:PV->Option KA
 | .int i=>Ja<|.n i
 | .str s=>Ja<|.t s
 |_=>Jb
noncomputable def kasOf:List PV->Option (List KA)
 |[]=>Ja []
 |p::r=>(kaOf p).bind λk=>(kasOf r).map (k:: ·)
def keyOf:PV->Option (List KA)
 | .tup l=>kasOf l
 |_=>Jb
noncomputable def KA.pv:KA->PV
 | .n i=> .int i
 | .t s=> .str s
def keyPV(k:List KA):PV:= .tup (k.map KA.pv)
noncomputable def kidx:List (List KA)->List KA->Option Nat
 |[],_=>Jb
 |k::r,x=>if k=x then Ja 0 else(kidx r x).map (· +1)
def klook(ks:List (List KA))(l:List PV)(k:List KA):Option PV:=(kidx ks k).bind λj=>l[j]?
def kset(ks:List (List KA))(l:List PV)(k:List KA)(v:PV):PO:=match kidx ks k with
 |some j=> .dict ks (l.set j v)
 |none=> .dict (ks++[k]) (l++[v])
def Okl(l:List PV):Prop:=l.length<=lim
def wlist(l:List PV)(σ:PH)(Q:Post):Prop:=Okl l/\wnew (.list l) σ Q
mutual
noncomputable def Rd(σ:PH):YO->PV->Prop
 | .none,v=>v= .none
 | .bool b,v=>v= .bool b
 | .int i,v=>v= .int i
 | .str x,v=>∃s,v= .str s/\x=Qb s
 | .tuple ds,v=>∃l,v= .tup l/\Rds σ ds l
 | .list ds,v=>X2 λa l=>A3 (v= .ref a) (σ a=Ja (.list l))<|Rds σ ds l
 | .dict _,_=>False
noncomputable def Rds(σ:PH):List YO->List PV->Prop
 |[],l=>l=[]
 |d::ds,l=>X2 λp ps=>A3 (l=p::ps) (Rd σ d p)<|Rds σ ds ps
end
def okD(d:YO):Prop:=d.canLay0=Jc/\d.depth<=50
inductive Wit{α β:Type}(f:α->β)(v:β)(K:α->Prop):Prop
 |mk (x:α) (e:v=f x) (k:K x):Wit f v K
inductive WitL(σ:PH)(K:List PV->Prop)(v:PV):Prop
 |mk (a:Jg) (l:List PV) (e:v= .ref a) (s:σ a=Ja (.list l)) (k:K l):WitL σ K v
noncomputable def onInt(K:Int->Prop):PV->Prop
 | .int x=>K x
 |_=>False
noncomputable def onO(K:List PV->Prop):Option PO->Prop
 |some (.list l)=>K l
 |_=>False
def onL(σ:PH)(K:List PV->Prop):PV->Prop
 | .ref a=>onO K<|σ a
 |_=>False
noncomputable def onDO(K:List (List KA)->List PV->Prop):Option PO->Prop
 |some (.dict k l)=>K k l
 |_=>False
def onD(σ:PH)(K:List (List KA)->List PV->Prop):PV->Prop
 | .ref a=>onDO K<|σ a
 |_=>False
noncomputable def oK(K:List KA->Prop):Option (List KA)->Prop
 |some k=>K k
 |none=>False
theorem i4{K:List KA->Prop}(h:oK K o):Wit Ja o K:=by
 induction o with
 |none=>exact h.elim
 |some v=>exact⟨v,rfl,h⟩
inductive WitD(σ:PH)(K:List (List KA)->List PV->Prop)(v:PV):Prop
 |mk (a:Jg) (ks:List (List KA)) (l:List PV) (e:v= .ref a) (s:σ a=Ja (.dict ks l)) (k:K ks l):WitD σ K v
theorem kB{K:List (List KA)->List PV->Prop}(h:onDO K v):∃ks l,v=Ja (.dict ks l)/\K ks l:=by
 induction v with
 |none=>exact h.elim
 |some o=>induction o with
  |dict ks l=>exact⟨ks,l,rfl,h⟩
  |_=>exact h.elim
theorem ip{K:List (List KA)->List PV->Prop}(h:onD σ K v):WitD σ K v:=by
 induction v using PV.casesOn with
 |ref a=>obtain⟨k,l,e,h⟩:=kB (show onDO K (σ a) from h);exact⟨a,k,l,rfl,e,h⟩
 |_=>exact h.elim
theorem d9{K:Int->Prop}(h:onInt K v):Wit PV.int v K:=by
 induction v using PV.casesOn with
 |int x=>exact⟨x,rfl,h⟩
 |_=>exact h.elim
theorem j6{K:List PV->Prop}(h:onO K v):∃l,v=Ja (.list l)/\K l:=by
 induction v with
 |none=>exact h.elim
 |some o=>induction o with
  |list l=>exact⟨l,rfl,h⟩
  |_=>exact h.elim
theorem fY{K:List PV->Prop}(h:onL σ K v):WitL σ K v:=by
 induction v using PV.casesOn with
 |ref a=>obtain⟨l,e,h⟩:=j6 (show onO K (σ a) from h);exact⟨a,l,rfl,e,h⟩
 |_=>exact h.elim
theorem gA{K:List PV->Prop}(e:σ a=Ja (.list l)):onL σ K (.ref a)=K l:=by
 show onO K (σ a)=K l;rw[e];rfl
def src(k:IK)(vs:List PV)(σ:PH)(K:List PV->(PH->Prop)->Prop):Prop:=
 match k with
 | .val=>match vs with
  |[.tup l]=>K l λo0=>True
  |[.ref a]=>onL σ (λl=>K l λT=>T a=Ja (.list l))<|.ref a
  |_=>False
 | .range=>match vs with
  |[v]=>onInt (λn=> -1000000<n/\K ((Qc n.toNat).map λ(i:Nat)=> .int i) λo0=>True) v
  |_=>False
 | .zip=>match vs with
  |[.ref a,.ref b]=>onL σ (λl=>onL σ (λm=>K ((l.zip m).map λp=> .tup [p.1,p.2]) λT=>T a=Ja (.list l)/\T b=Ja (.list m))<|.ref b)<|.ref a
  |_=>False
def whid(k:IK)(σ:PH)(K:PH->Prop):Prop:=
 match k with
 | .zip=>∀z,σ z=Jb->K (σ.set z .hid)
 |_=>K σ
noncomputable def bindT:Tg->PV->Rho->Option Rho
 | .name x,v,ρ=>Ja<|ρ.put x v
 | .tup P,.tup s,ρ=>if s.length=P.length then Ja (ρ.puts P s) else Jb
 |_,_,_=>Jb
noncomputable def Tg.isT:Tg->Bool
 | .name _=>Jd
 | .tup _=>Jc
noncomputable def Tg.names:Tg->List String
 | .name x=>[x]
 | .tup s=>s
noncomputable def blank(tg:Tg)(ρ:Rho):Rho:=(".0",Jb)::((tg.names.map λx=>(x,Jb))++ρ)
def bindC(tg:Tg)(v:PV)(ρ:Rho):Option Rho:=bindT tg v<|blank tg ρ
noncomputable def lenO:Option PO->Option Nat
 |some (.list l)=>Ja l.length
 |_=>Jb
theorem sG(h:lenO o=Ja k):∃l,o=Ja (.list l)/\l.length=k:=by
 rcases o with o0|o
 ·exact ns h
 ·induction o with
  |list l=>exact⟨l,rfl,sj h⟩
  |_=>exact ns h
def plen(σ:PH):PV->Option Nat
 | .ref a=>lenO<|σ a
 | .tup l=>Ja l.length
 | .scr l=>Ja l.length
 |_=>Jb
noncomputable def place(n:Nat)(i:Int):Option Nat:=
 if 0<=i then(if i<n then Ja i.toNat else Jb) else(if 0<=i+n then Ja (i+n).toNat else Jb)
def psubL(l:List PV):PV->Option PV
 | .int k=>(place l.length k).bind λj=>l[j]?
 |_=>Jb
def psubO(i:PV):Option PO->Option PV
 |some (.list l)=>psubL l i
 |_=>Jb
def psub(σ:PH):PV->PV->Option PV
 | .ref a,i=>psubO i<|σ a
 | .tup l,.int k=>(place l.length k).bind λj=>l[j]?
 | .scr l,.int k=>((place l.length k).bind λj=>l[j]?).map .int
 |_,_=>Jb
noncomputable def dZ:List PV->Option (List Int)
 |[]=>Ja []
 | .int i::r=>(dZ r).map (i:: ·)
 |_=>Jb
noncomputable def em:List PV->Option (List Bool)
 |[]=>Ja []
 | .bool i::r=>(em r).map (i:: ·)
 |_=>Jb
def wadd(a b:PV)(σ:PH)(Q:Post):Prop:=
 match a with
 | .int x=>onInt (λy=>Q (.int (x+y)) σ) b
 | .ref x=>onL σ (λl=>onL σ (λm=>wlist (l++m) σ Q) b) (.ref x)
 |_=>False
def wbin(o:BOp)(a b:PV)(σ:PH)(Q:Post):Prop:=
 match o with
 | .add=>wadd a b σ Q
 | .sub=>onInt (λx=>onInt (λy=>Q (.int (x-y)) σ) b) a
 | .mul=>onInt (λx=>onInt (λy=>(x.natAbs<2^64\/y.natAbs<2^64)/\Q (.int (x*y)) σ) b) a
 | .fdiv=>onInt (λx=>onInt (λy=>y≠0/\y.natAbs<1073741824/\Q (.int (x.fdiv y)) σ) b) a
 | .mod=>onInt (λx=>onInt (λy=>y≠0/\Q (.int (x.fmod y)) σ) b) a
 | .pow _=>onInt (λx=>onInt (λy=>0<=y/\y<=1000/\x.natAbs<2^64/\Q (.int (x^y.toNat)) σ) b) a
def weq(a b:PV)(σ:PH)(Q:Bool->PH->Prop):Prop:=X2 λc d=>A5 (Rd σ c a) (Rd σ d b) (okD c) (okD d)<|Q (PyData.eqv c d) σ
def win(a b:PV)(σ:PH)(Q:Bool->PH->Prop):Prop:=onD σ (λi o0=>oK (λk=>Q (kidx i k).isSome σ) (keyOf a)) b\/onL σ (λl=>X2 λc s=>A5 (Rd σ c a) (Rds σ s l) (okD c) ((∀d∈s,okD d)) (Q (s.any λd=>PyData.eqv d c) σ)) b
def wrel(f:Int->Int->Bool)(a b:PV)(σ:PH)(Q:Bool->PH->Prop):Prop:=onInt (λx=>onInt (λy=>Q (f x y) σ) b) a
def wcmp(o:COp)(a b:PV)(σ:PH)(Q:Bool->PH->Prop):Prop:=
 match o with
 | .eq=>weq a b σ Q
 | .ne=>weq a b σ λr σ=>Q (!r) σ
 | .in_=>win a b σ Q
 | .nin=>win a b σ λr σ=>Q (!r) σ
 | .lt=>wrel (λx y=>decide (x<y)) a b σ Q
 | .le=>wrel (λx y=>decide (x<=y)) a b σ Q
 | .gt _=>wrel (λx y=>decide (x>y)) a b σ Q
 | .ge=>wrel (λx y=>decide (x>=y)) a b σ Q
noncomputable def on1(K:PV->Prop):List PV->Prop
 |[v]=>K v
 |_=>False
theorem wO{K:PV->Prop}(h:on1 K l):∃v,l=[v]/\K v:=by
 match l,h with
 |[v],h=>exact⟨v,rfl,h⟩
noncomputable def oBs(K:List Bool->Prop):Option (List Bool)->Prop
 |some bs=>K bs
 |none=>False
noncomputable def oIs(K:List Int->Prop):Option (List Int)->Prop
 |some is=>K is
 |none=>False
theorem jY{K:List Bool->Prop}(h:oBs K o):Wit Ja o K:=by
 induction o with
 |none=>exact h.elim
 |some bs=>exact⟨bs,rfl,h⟩
theorem j3{K:List Int->Prop}(h:oIs K o):Wit Ja o K:=by
 induction o with
 |none=>exact h.elim
 |some bs=>exact⟨bs,rfl,h⟩
noncomputable def oNat(K:Nat->Prop):Option Nat->Prop
 |some n=>K n
 |none=>False
theorem hZ{K:Nat->Prop}(h:oNat K o):Wit Ja o K:=by
 induction o with
 |none=>exact h.elim
 |some n=>exact⟨n,rfl,h⟩
noncomputable def c3(K:Bool->Prop):PV->Prop
 | .bool x=>K x
 |_=>False
theorem kI{K:Bool->Prop}(h:c3 K v):Wit PV.bool v K:=by
 induction v using PV.casesOn with
 |bool x=>exact⟨x,rfl,h⟩
 |_=>exact h.elim
def onS(σ:PH)(K:List PV->Prop):PV->Prop
 | .tup l=>K l
 | .ref a=>onO K<|σ a
 |_=>False
theorem vU{K:List PV->Prop}(h:onS σ K v):(∃l,v= .tup l/\K l)\/X2 λa l=>A3 (v= .ref a) (σ a=Ja (.list l)) (K l):=by
 induction v using PV.casesOn with
 |tup l=>exact .inl ⟨l,rfl,h⟩
 |ref a=>obtain⟨l,e,h⟩:=j6 (show onO K (σ a) from h);exact .inr ⟨a,l,rfl,e,h⟩
 |_=>exact h.elim
noncomputable def lmin:List Int->Int
 |[]=>0
 |x::r=>r.foldl min x
def wMin(σ:PH)(Q:Post)(args:List PV):Prop:=on1 (onL σ λl=>oIs (λis=>is≠ []/\Q (.int (lmin is)) σ) (dZ l)) args
noncomputable def dQ:List KA->Bool
 |[.n i,.n j]=>decide (0<=i/\i<8)&&decide (0<=j/\j<8)
 |_=>Jd
theorem i8(h:dQ k=Jc):X2 λa b=>A3 (k=[.n ((a:Nat):Int),.n ((b:Nat):Int)]) (a<8) (b<8):=by
 rcases k with o0|⟨i,o0|⟨j,o0|⟨o0,o0⟩⟩⟩
 ·exact ft h
 ·rcases i with⟨⟩<;>exact ft h
 ·rcases i with i|o0
  ·rcases j with j|o0
   ·obtain⟨N,p⟩:=Qh.mp h;have N:=Y6 N;have p:=Y6 p;exact⟨i.toNat,j.toNat,by rw[WR N.1,WR p.1],(KV N.1).mpr N.2,(KV p.1).mpr p.2⟩
   ·exact ft h
  ·exact ft h
 ·rcases i with⟨⟩<;>first|exact ft h|(rcases j with⟨⟩<;>exact ft h)
def wbi(b:BI)(args:List PV)(σ:PH)(Q:Post):Prop:=
 match b with
 | .len=>on1 (λv=>oNat (λn=>n<=lim/\Q (.int n) σ) (plen σ v)) args
 | .all=>on1 (onL σ λl=>oBs (λbs=>Q (.bool (bs.all id)) σ) (em l)) args
 | .any=>on1 (onL σ λl=>oBs (λbs=>Q (.bool (bs.any id)) σ) (em l)) args
 | .abs=>on1 (onInt λx=>Q (.int (if x<0 then-x else x)) σ) args
 | .sum=>on1 (onL σ λl=>oIs (λis=>Q (.int is.sum) σ) (dZ l)) args
 | .int=>on1 (c3 λx=>Q (.int (if x then 1 else 0)) σ) args
 | .list=>on1 (λv=>onD σ (λks o0=>wlist (ks.map keyPV) σ Q) v\/onS σ (λl=>wlist l σ Q) v) args
 | .min=>wMin σ Q args
 | .sorted=>on1 (onL σ λl=>oIs (λis=>is.length<64/\∀js:List Int,js.Perm is->js.Pairwise (· <= ·)->wlist (js.map .int) σ Q) (dZ l)) args
 | .dict _=>on1 (onD σ λks l=>(ks≠ []/\ks.length<=lim/\∀k∈ks,dQ k=Jc)/\wnew (.dict ks l) σ Q) args
noncomputable def isiO(G:Gx)(t:List String):Option PO->Option Bool
 |some (.list _)=>Ja<|t.contains "list"
 |_=>Jb
def isiV(G:Gx)(σ:PH)(v:PV)(t:List String):Option Bool:=
 match v with
 | .none=>Ja Jd
 | .str _=>Ja Jd
 | .bool _=>Ja (t.contains "bool"||t.contains "int")
 | .int _=>Ja<|t.contains "int"
 | .tup _=>Ja<|t.contains "tuple"
 | .ref a=>isiO G t<|σ a
 |_=>Jb
def wmeth(m:Me)(o:PV)(args:List PV)(σ:PH)(Q:Post):Prop:=
 match o with
 | .ref a=>onO (λl=>match m,args with
  | .append,[v]=>l.length<lim/\Q .none (σ.set a<|.list (l++[v]))
  |_,_=>False) (σ a)
 |_=>False
def recv(m:Me)(σ:PH)(v:PV):Prop:=
 match m with
 |_=>onL σ (λo0=>True) v
noncomputable def oR(K:Rho->Prop):Option Rho->Prop
 |some v=>K v
 |none=>False
theorem qc{K:Rho->Prop}(h:oR K o):Wit Ja o K:=by
 induction o with
 |none=>exact h.elim
 |some v=>exact⟨v,rfl,h⟩
noncomputable def f5(chk:PH->Prop)(tg:Tg)(ρ:Rho)(tst:Rho->PH->(Bool->PH->Prop)->Prop)(el:Rho->PH->Post->Prop):List PV->List PV->PH->(List PV->PH->Prop)->Prop
 |[],a,σ,K=>chk σ/\K a σ
 |x::s,a,σ,K=>chk σ/\oR (λh=>tst h σ λb m=>if b then el h m λv O=>f5 chk tg ρ tst el s (a++[v]) O K else f5 chk tg ρ tst el s a m K) (bindC tg x ρ)
noncomputable def oV(K:PV->Prop):Option PV->Prop
 |some v=>K v
 |none=>False
theorem jC{K:PV->Prop}(h:oV K o):Wit Ja o K:=by
 induction o with
 |none=>exact h.elim
 |some v=>exact⟨v,rfl,h⟩
noncomputable def oB(K:Bool->Prop):Option Bool->Prop
 |some v=>K v
 |none=>False
theorem t2{K:Bool->Prop}(h:oB K o):Wit Ja o K:=by
 induction o with
 |none=>exact h.elim
 |some v=>exact⟨v,rfl,h⟩
noncomputable def PV.isNone:PV->Bool
 | .none=>Jc
 |_=>Jd
def wget(o:Option PV)(σ:PH)(Q:Post):Prop:=match o with
 |some v=>Q v σ
 |none=>wnew (.list []) σ Q
def wsd(A:PV)(σ:PH)(Q:Post)(I:PV):Prop:=match A with
 | .ref a=>onDO (λs l=>l.length<lim/\oK (λk=>match klook s l k with
  |some v=>Q v σ
  |none=>∀b,σ b=Jb->Q (.ref b) ((σ.set b (.list [])).set a (.dict (s++[k]) (l++[.ref b])))) (keyOf I)) (σ a)
 |_=>False
noncomputable def pfd(G:Gx)(f:String):Option PO->Option PV
 |some (.fd c s)=>((G.flds c).idxOf? f).bind λj=>s[j]?
 |_=>Jb
def pfld(G:Gx)(σ:PH)(f:String):Option PO->Option PV
 |some (.inst d)=>pfd G f<|σ d
 |_=>Jb
def pattr(G:Gx)(σ:PH)(f:String):PV->Option PV
 | .ref a=>pfld G σ f<|σ a
 |_=>Jb
noncomputable def onFd(c:String):Option PO->Prop
 |some (.fd K _)=>K=c
 |_=>False
def onIO(c:String)(σ:PH):Option PO->Prop
 |some (.inst d)=>onFd c<|σ d
 |_=>False
def onI(c:String)(σ:PH):PV->Prop
 | .ref a=>onIO c σ<|σ a
 |_=>False
theorem uj(h:onFd c o):∃f,o=Ja (.fd c f):=by
 induction o with
 |none=>exact h.elim
 |some p=>induction p with
  |fd K f=>obtain rfl:K=c:=h;exact⟨f,rfl⟩
  |_=>exact h.elim
theorem xf(h:onI c σ v):X3 λa d f=>A3 (v= .ref a) (σ a=Ja (.inst d)) (σ d=Ja (.fd c f)):=by
 induction v using PV.casesOn with
 |ref a=>
  replace h:onIO c σ (σ a):=h
  induction e:σ a with
  |none=>rw[e] at h;exact h.elim
  |some o=>induction o with
   |inst d=>
    rw[e] at h;obtain⟨f,q⟩:=uj (show onFd c (σ d) from h);exact⟨a,d,f,rfl,e,q⟩
   |_=>rw[e] at h;exact h.elim
 |_=>exact h.elim
mutual
noncomputable def we(G:Gx)(cl:Cl):E->Rho->PH->Post->XPost->Prop
 | .none,_,σ,Q,_=>Q .none σ
 | .bool b,_,σ,Q,_=>Q (.bool b) σ
 | .int i,_,σ,Q,_=>Q (.int i) σ
 | .str s,_,σ,Q,_=>Q (.str s) σ
 | .loc x,ρ,σ,Q,_=>oV (λv=>Q v σ) (ρ.get x)
 | .glob x,_,σ,Q,_=>oV (λv=>Q v σ) (G.glob x)
 | .bin p a b,ρ,σ,Q,X=>we G cl a ρ σ (λA σ1=>we G cl b ρ σ1 (λq O=>wbin p A q O Q) X) X
 | .not_ a,ρ,σ,Q,X=>we G cl a ρ σ (λv σ1=>c3 (λb=>Q (.bool !b) σ1) v) X
 | .and_ a b,ρ,σ,Q,X=>we G cl a ρ σ (λv σ1=>c3 (λy=>if y then we G cl b ρ σ1 Q X else Q (.bool Jd) σ1) v) X
 | .or_ a b,ρ,σ,Q,X=>we G cl a ρ σ (λv σ1=>c3 (λy=>if y then Q (.bool Jc) σ1 else we G cl b ρ σ1 Q X) v) X
 | .isNone a,ρ,σ,Q,X=>we G cl a ρ σ (λv σ1=>Q (.bool v.isNone) σ1) X
 | .notNone a,ρ,σ,Q,X=>we G cl a ρ σ (λv σ1=>Q (.bool !v.isNone) σ1) X
 | .cmp p a b,ρ,σ,Q,X=>we G cl a ρ σ (λA σ1=>we G cl b ρ σ1 (λq O=>wcmp p A q O λr σ3=>Q (.bool r) σ3) X) X
 | .cmp2 a h b D c,ρ,σ,Q,X=>we G cl a ρ σ (λA σ1=>we G cl b ρ σ1 (λq O=>wcmp h A q O λr σ3=>
   if r then we G cl c ρ σ3 (λw N=>wcmp D q w N λr P=>Q (.bool r) P) X else Q (.bool Jd) σ3) X) X
 | .tup l,ρ,σ,Q,X=>wes G cl l ρ σ (λvs σ1=>Q (.tup vs) σ1) X
 | .list l,ρ,σ,Q,X=>wes G cl l ρ σ (λvs σ1=>wnew (.list vs) σ1 Q) X
 | .sub a i,ρ,σ,Q,X=>we G cl a ρ σ (λA σ1=>we G cl i ρ σ1 (λC O=>onD O (λks l=>oK (λk=>oV (λv=>Q v O) (klook ks l k)) (keyOf C)) A\/oNat (λk=>k<=lim/\oV (λv=>Q v O) (psub O A C)) (plen O A)) X) X
 | .comp t tg k g,ρ,σ,Q,X=>G.calm=Jc/\wes G cl g ρ σ (λvs σ1=>src k vs σ1 λxs chk=>xs.length<=lim/\whid k σ1 λσ1=>f5 chk tg ρ (λo0 σ K=>K Jc σ) (λρ' σ K=>we G cl t ρ' σ K λo0 o0=>False) xs [] σ1 λB O=>wnew (.list B) O Q) X
 | .compIf t tg k g n,ρ,σ,Q,X=>G.calm=Jc/\wes G cl g ρ σ (λvs σ1=>src k vs σ1 λxs chk=>xs.length<=lim/\whid k σ1 λσ1=>f5 chk tg ρ (λρ' σ K=>we G cl n ρ' σ (λv σ'=>c3 (λb=>K b σ') v) λo0 o0=>False) (λρ' σ K=>we G cl t ρ' σ K λo0 o0=>False) xs [] σ1 λB O=>wnew (.list B) O Q) X
 | .call f args,ρ,σ,Q,X=>G.fn f=Jc/\wes G cl args ρ σ (λvs σ1=>cl f vs σ1 Q X) X
 | .bi b args,ρ,σ,Q,X=>G.calm=Jc/\wes G cl args ρ σ (λvs σ1=>wbi b vs σ1 Q) X
 | .isi a j,ρ,σ,Q,X=>stat j=Jc/\we G cl a ρ σ (λv σ1=>oB (λb=>Q (.bool b) σ1) (isiV G σ1 v j)) X
 | .meth o m args,ρ,σ,Q,X=>we G cl o ρ σ (λW σ1=>recv m σ1 W/\wes G cl args ρ σ1 (λvs O=>wmeth m W vs O Q) X) X
 | .dict0,_,σ,Q,_=>G.full=Jc/\wnew (.dict [] []) σ Q
 | .get a k,ρ,σ,Q,X=>we G cl a ρ σ (λA σ1=>onD σ1 (λo0 o0=>True) A/\we G cl k ρ σ1 (λI O=>onD O (λks l=>oK (λk=>wget (klook ks l k) O Q) (keyOf I)) A) X) X
 | .sd a k,ρ,σ,Q,X=>we G cl a ρ σ (λA σ1=>onD σ1 (λo0 o0=>True) A/\we G cl k ρ σ1 (λI O=>wsd A O Q I) X) X
 | .attr x f,ρ,σ,Q,_=>oV (λv=>oV (λu=>Q u σ) (pattr G σ f v)) (ρ.get x)
 | .mcall c f o args,ρ,σ,Q,X=>G.fn f=Jc/\we G cl o ρ σ (λW σ1=>onI c σ1 W/\wes G cl args ρ σ1 (λvs O=>cl f (W::vs) O Q X) X) X
noncomputable def wes(G:Gx)(cl:Cl):List E->Rho->PH->(List PV->PH->Prop)->XPost->Prop
 |[],_,σ,Q,_=>Q [] σ
 |e::es,ρ,σ,Q,X=>we G cl e ρ σ (λv σ1=>wes G cl es ρ σ1 (λvs O=>Q (v::vs) O) X) X
end
abbrev SPost:=Fl->Rho->PH->Prop
abbrev gb:=PX->Rho->PH->Prop
noncomputable def onFl(K:Rho->PH->Prop)(Q:SPost):SPost
 | .next,ρ,σ=>K ρ σ
 | .ret v,ρ,σ=>Q (.ret v) ρ σ
noncomputable def forGo(chk:PH->Prop)(tg:Tg)(body:Rho->PH->SPost->Prop)(Q:SPost):List PV->Rho->PH->Prop
 |[],ρ,σ=>chk σ/\Q .next ρ σ
 |x::s,ρ,σ=>chk σ/\oR (λh=>body h σ (onFl (λD O=>forGo chk tg body Q s D O) Q)) (bindT tg x ρ)
def wset(o i v:PV)(σ:PH)(K:PH->Prop):Prop:=
 match o with
 | .ref a=>onDO (λs l=>l.length<lim/\oK (λk=>K (σ.set a (kset s l k v))) (keyOf i)) (σ a)\/onO (λl=>onInt (λk=>oNat (λj=>l.length<=lim/\K (σ.set a (.list (l.set j v)))) (place l.length k)) i) (σ a)
 |_=>False
noncomputable def whGo(tst:Rho->PH->(Bool->PH->Prop)->Prop)(body:Rho->PH->SPost->Prop)(Q:SPost):Nat->Rho->PH->Prop
 |0,_,_=>False
 |n+1,ρ,σ=>tst ρ σ λb m=>if b then body ρ m (onFl (λD O=>whGo tst body Q n D O) Q) else Q .next ρ m
mutual
noncomputable def ws(G:Gx)(cl cu:Cl):S->Rho->PH->SPost->gb->Prop
 | .assign (.name x) e,ρ,σ,Q,X=>we G cl e ρ σ (λv σ1=>Q .next (ρ.put x v) σ1) λx σ1=>X x ρ σ1
 | .assign (.tup xs) e,ρ,σ,Q,X=>G.calm=Jc/\we G cl e ρ σ (λv σ1=>oR (λρ'=>Q .next ρ' σ1) (bindT (.tup xs) v ρ)) λx σ1=>X x ρ σ1
 | .setIdx o i e,ρ,σ,Q,X=>we G cl e ρ σ (λv σ1=>we G cl o ρ σ1 (λW O=>we G cl i ρ O (λC σ3=>wset W C v σ3 λm=>Q .next ρ m) λx σ1=>X x ρ σ1) λx σ1=>X x ρ σ1) λx σ1=>X x ρ σ1
 | .expr e,ρ,σ,Q,X=>we G cl e ρ σ (λo0 σ1=>Q .next ρ σ1) λx σ1=>X x ρ σ1
 | .ret e,ρ,σ,Q,X=>we G cl e ρ σ (λv σ1=>Q (.ret v) ρ σ1) λx σ1=>X x ρ σ1
 | .if_ t b o,ρ,σ,Q,X=>we G cl t ρ σ (λv σ1=>c3 (λc=>if c then wss G cl cu b ρ σ1 Q X else wss G cl cu o ρ σ1 Q X) v) λx σ1=>X x ρ σ1
 | .for_ tg k g b,ρ,σ,Q,X=>G.calm=Jc/\wes G cl g ρ σ (λvs σ1=>src k vs σ1 λxs chk=>xs.length<=lim/\whid k σ1 λσ1=>forGo chk tg (λρ σ K=>wss G cl cu b ρ σ K λo0 o0 o0=>False) Q xs ρ σ1) λx σ1=>X x ρ σ1
 | .while_ t b,ρ,σ,Q,X=>G.calm=Jc/\∃k,whGo (λρ σ K=>we G cl t ρ σ (λv σ1=>c3 (λc=>K c σ1) v) λx σ1=>X x ρ σ1) (λρ σ K=>wss G cl cu b ρ σ K X) Q k ρ σ
 | .raise c args,ρ,σ,_,X=>(G.full=Jc/\G.calm=Jc/\(G.mks.contains c=Jc\/(G.inis.contains c=Jc/\args.length=(G.flds c).length)))/\wes G cl args ρ σ (λvs σ1=>X ⟨c,vs.take (G.flds c).length⟩ ρ σ1) λx σ1=>X x ρ σ1
 | .try1 b c h,ρ,σ,Q,_=>(G.full=Jc/\G.calm=Jc/\G.cs.contains c=Jc)/\wss G cl cu b ρ σ Q λe j σ1=>
   if G.sub e.c c then wss G.un cu cu h j σ1 Q λo0 o0 o0=>False
   else False
noncomputable def wss(G:Gx)(cl cu:Cl):List S->Rho->PH->SPost->gb->Prop
 |[],ρ,σ,Q,_=>Q .next ρ σ
 |s::r,ρ,σ,Q,X=>ws G cl cu s ρ σ (onFl (λj σ1=>wss G cl cu r j σ1 Q X) Q) X
end
section
variable{G:Gx}{cl cu:Cl}{ρ:Rho}{σ:PH}
section
variable{Q:Post}{X:XPost}
end
section
variable{Q:List PV->PH->Prop}{X:XPost}
end
section
variable{Q:SPost}{X:gb}
end
end
structure Cx where
 prog:Jn
 w:Jm
 B:Ji
 cls:String->Option Jg
 flds:String->List String
 fv:String->Option Jf
 ok:Prop
 calm:Prop
 K:List (Jg×Jp)
 icl:String->Option Jg
noncomputable def Cx.un(C:Cx):Cx:={C with calm:=False}
noncomputable abbrev tupO(vs:Array Jf)(n:Nat):Jp:={cls:= .type "tuple",dict:=Jb,data:= .seq vs n,slots:= #[]}
noncomputable abbrev lstO(vs:Array Jf)(n:Nat):Jp:={cls:= .type "list",dict:=Jb,data:= .seq vs n,slots:= #[]}
mutual
noncomputable def VR(C:Cx)(σ:PH)(h:Ji):PV->Jf->Prop
 | .none,v=>v= .none
 | .bool b,v=>v= .bool b
 | .int i,v=>∃t,v= .int i t
 | .str s,v=>∃t,v= .str (Qb s) t
 | .tup l,v=>X3 λa n vs=>A4 (v= .ref a) (σ a=Jb) (h.get? a=Ja (tupO vs n))<|VRs C σ h l vs.toList
 | .ref a,v=>v= .ref a
 | .scr l,v=>X4 λa o n vs=>A6 (v= .ref a) (C.B.get? a=Ja o) (o.cls= .type "list") (o.data= .seq vs n) (vs.size=l.length) (∀ (i:Nat) (k:Int),l[i]? =Ja k->∃t,vs[i]? =Ja (Value.int k t))
noncomputable def VRs(C:Cx)(σ:PH)(h:Ji):List PV->List Jf->Prop
 |[],vs=>vs=[]
 |p::ps,vs=>X2 λv r=>A3 (vs=v::r) (VR C σ h p v)<|VRs C σ h ps r
end
inductive FD(C:Cx)(σ:PH)(h:Ji)(c:String)(fs:List PV)(o:Jp):Prop
 |mk (es:Array JP) (ep:Nat) (e:o.data= .dict es ep) (k:StrKeys es) (v:∀ (i:Nat) f p,(C.flds c)[i]? =Ja f->fs[i]? =Ja p->∃v,nsFind es (Qb f)=Ja v/\VR C σ h p v) (n:∀x,(∀f∈C.flds c,x≠Qb f)->nsFind es x=Option.none):FD C σ h c fs o
inductive KeyAt(C:Cx)(σ:PH)(h:Ji)(k:List KA)(a:Jg):Prop
 |mk (n:σ a=Option.none) (vs:Array Jf) (m:Nat) (g:h.get? a=Ja (tupO vs m)) (i:ItemsAre (mk C.prog C.w) k vs.toList):KeyAt C σ h k a
inductive DR(C:Cx)(σ:PH)(h:Ji)(ks:List (List KA))(l:List PV)(o:Jp):Prop
 |mk (es:Array JP) (ep:Nat) (xs:List (List KA×Jg×Jf)) (x:o.ExactDict) (d:o.data= .dict es ep) (e:es.toList=xs.map (JN (tk C.prog C.w))) (k:xs.map (·.1)=ks) (nd:ks.Nodup)
  (ka:∀y∈xs,KeyAt C σ h y.1 y.2.1) (v:VRs C σ h l (xs.map (·.2.2))):DR C σ h ks l o
def OR(C:Cx)(σ:PH)(h:Ji):PO->Jp->Prop
 | .list l,o=>∃v n,o=lstO v n/\VRs C σ h l v.toList
 | .dict s l,o=>DR C σ h s l o
 | .fd c f,o=>FD C σ h c f o
 | .hid,o=>∃a b,o=tupO #[a,b] 0
 | .inst d,o=>X2 λc k=>A5 (C.icl c=Ja k) (o.cls= .ref k) (∀c,o.data≠ .cls c) (o.dict=Ja d) (∃f,σ d=Ja (.fd c f))
noncomputable def PO.needs(o:Prop)(a:Jg):PO->Prop
 | .dict .. =>a≠JD
 |_=>True
structure Sim(C:Cx)(σ:PH)(h:Ji):Prop where
 base:∀b o,C.B.get? b=Ja o->h.get? b=Ja o
 new:∀a o,σ a=Ja o->C.B.get? a=Jb
 objs:∀a o,σ a=Ja o->∃ob,h.get? a=Ja ob/\OR C σ h o ob
 rich:∀a o,σ a=Ja o->o.needs C.ok a
def Like(o o':Jp):Prop:=o'.cls=o.cls/\o'.dict=o.dict/\o'.data=o.data/\((∀e n,o.data≠ .dict e n)->o'.slots=o.slots)
theorem Like.eq{o o':Jp}(x:Like o o')(h:∀es n,o.data≠ .dict es n):o'=o:=by
 obtain⟨c,d,R,l⟩:=o;obtain⟨Q,X,t,s⟩:=o';obtain⟨N,p,J,w⟩:=x;simp only at N p J w;subst N p J;rw[w h]
def isSeq(o:Jp):Prop:=∃x n,o.data= .seq x n
structure Step(S:Jg->Prop)(σ:PH)(h:Ji)(σ':PH)(h':Ji):Prop where
 keep:∀b o,h.get? b=Ja o->σ b=Jb->σ' b=Jb/\∃o',h'.get? b=Ja o'/\((S b->isSeq o)->Like o o')
 grow:∀b o,σ b=Ja o->∃o',σ' b=Ja o'
 fix:∀b o,σ b=Ja o->o.fixed=Jc->σ' b=Ja o
 live:∀b,h'.get? b=Jb->h.get? b=Jb
theorem Like.refl(o:Jp):Like o o:=⟨rfl,rfl,rfl,λo0=>rfl⟩
theorem Like.trans(x:Like a b)(y:Like b c):Like a c:=⟨y.1.trans x.1,y.2.1.trans x.2.1,y.2.2.1.trans x.2.2.1,λh=>(y.2.2.2 (λs n e=>h s n (x.2.2.1.symm.trans e))).trans (x.2.2.2 h)⟩
theorem Like.isSeq(x:Like a b)(y:isSeq a):isSeq b:=by obtain⟨s,n,e⟩:=y;exact⟨s,n,x.2.2.1.trans e⟩
theorem Step.refl(S:Jg->Prop)(σ:PH)(h:Ji):Step S σ h σ h:=⟨λo0 o e s=>⟨s,o,e,λo0=> .refl o⟩,λo0 o e=>⟨o,e⟩,λo0 o0 e o0=>e,λo0 e=>e⟩
theorem Step.trans{S:Jg->Prop}{d K W:PH}(x:Step S d h K p)(y:Step S K p W B):Step S d h W B where
 keep:=λb o e s=>by
  obtain⟨G,i,g,l⟩:=x.keep b o e s;obtain⟨C,z,H,w⟩:=y.keep b i g G;exact⟨C,z,H,λq=>(l q).trans (w λc=>(l q).isSeq (q c))⟩
 grow:=λb o e=>by obtain⟨i,g⟩:=x.grow b o e;exact y.grow b i g
 fix:=λb o e f=>y.fix b o (x.fix b o e f) f
 live:=λb e=>x.live b<|y.live b e
theorem Step.mono{S r:Jg->Prop}{h A:Ji}(x:Step S σ h σ' A)(k:∀b,(h.get? b).isSome->S b->r b):Step r σ h σ' A where
 keep:=λb o e s=>by obtain⟨g,i,y,l⟩:=x.keep b o e s;exact⟨g,i,y,λq=>l λf=>q<|k b (by simp[e]) f⟩
 grow:=x.grow
 fix:=x.fix
 live:=x.live
mutual
theorem VR.step{S:Jg->Prop}(st:Step S σ h σ' A):∀ (p:PV) (v:Jf),VR C σ h p v->VR C σ' A p v
 | .none=>λo0 e=>e
 | .bool _=>λo0 e=>e
 | .int _=>λo0 e=>e
 | .str _=>λo0 e=>e
 | .ref _=>λo0 e=>e
 | .scr _=>λo0 e=>e
 | .tup l=>λv e=>by
  obtain⟨a,n,vs,T,es,e2,V⟩:=e;obtain⟨s,o',o,k⟩:=st.keep a _ e2 es;rw[(k λo0=>⟨vs,n,rfl⟩).eq (by simp)] at o;exact⟨a,n,vs,T,s,o,VRs.step st l _ V⟩
theorem VRs.step{S:Jg->Prop}(st:Step S σ h σ' A):∀ (l:List PV) (vs:List Jf),VRs C σ h l vs->VRs C σ' A l vs
 |[]=>λo0 e=>e
 |p::ps=>λvs e=>by
  obtain⟨v,r,T,e2,X⟩:=e;exact⟨v,r,T,VR.step st p v e2,VRs.step st ps r X⟩
end
theorem KeyAt.step{S:Jg->Prop}(st:Step S σ h σ' A)(x:KeyAt C σ h k a):KeyAt C σ' A k a:=by
 obtain⟨n,v,m,g,i⟩:=x;obtain⟨X,o,e,l⟩:=st.keep a _ g n;rw[(l λo0=>⟨v,m,rfl⟩).eq (by simp)] at e;exact⟨X,v,m,e,i⟩
theorem OR.step{S:Jg->Prop}(st:Step S σ h σ' A):∀ (p:PO) (o:Jp),OR C σ h p o->OR C σ' A p o:=λp o r=>by
 induction p with
 |list l=>obtain⟨J,n,F,X⟩:=r;exact⟨J,n,F,VRs.step st _ _ X⟩
 |dict=>obtain⟨U,s,P,x,d,e,k,nd,a,v⟩:=r;exact⟨U,s,P,x,d,e,k,nd,λy W=>(a y W).step st,VRs.step st _ _ v⟩
 |fd=>obtain⟨U,s,e,k,v,z⟩:=r;exact⟨U,s,e,k,λi f p N Y=>(v i f p N Y).imp λu q=>⟨q.1,VR.step st _ _ q.2⟩,z⟩
 |hid=>exact r
 |inst d=>obtain⟨c,k,T,F,X,I,V⟩:=r;exact⟨c,k,T,F,X,I,V.imp λL w=>st.fix d _ w rfl⟩
def Rest(s s':Je):Prop:=s'.gens=s.gens/\s'.os=s.os
theorem Rest.refl(s:Je):Rest s s:=⟨rfl,rfl⟩
theorem Rest.trans(x:Rest a b)(y:Rest b c):Rest a c:=⟨y.1.trans x.1,y.2.trans x.2⟩
noncomputable def none1:Jg->Prop:=λo0=>False
inductive FF(C:Cx)(x:PX)(σ:PH)(h₀ h:Ji)(od:Option Jg):Prop
 |no (f:x.fs=[]) (e:od=Option.none):FF C x σ h₀ h od
 |at_ (f:x.fs≠ []) (d:Jg) (o:Jp) (e:od=Ja d) (b:C.B.get? d=Option.none) (n:σ d=Option.none) (z:h₀.get? d=Option.none) (g:h.get? d=Ja o) (r:FD C σ h x.c x.fs o):FF C x σ h₀ h od
theorem FF.from{S:Jg->Prop}(f:FF C x σ V h v)(st:Step S B h₀ p V):FF C x σ h₀ h v:=by
 induction f with
 |no f e=>exact .no f e
 |at_ f d o e b n z g r=>exact .at_ f d o e b n (st.live _ z) g r
inductive Fly(C:Cx)(own:Option Jg)(x:PX)(e:Jf)(σ:PH)(h₀ h:Ji):Prop
 |mk (a:Jg) (o:Jp) (vs:Array Jf) (k:Jg) (q1:e= .ref a) (q2:C.B.get? a=Option.none) (q3:σ a=Option.none) (q4:h₀.get? a=Option.none) (q5:h.get? a=Ja o) (q6:C.cls x.c=Ja k) (q7:o.cls= .ref k) (q8:o.data= .fields vs) (q9:vs[2]? =Ja .none)
  (q10:vs[1]? =Ja .none\/X3 λT oT ts=>A8 (vs[1]? =Ja (.ref T)) (T≠a) (C.B.get? T=Option.none) (σ T=Option.none) (h₀.get? T=Option.none) (h.get? T=Ja oT) (oT.data= .fields ts)<|(ts[3]? =Ja .none\/∃L,own=Ja L/\ts[3]? =Ja (Jx L))) (q11:FF C x σ h₀ h o.dict):Fly C own x e σ h₀ h
theorem Fly.from{S:Jg->Prop}{own:Option Jg}{σ B d:PH}(f:Fly C own x e σ V h)(st:Step S B h₀ d V):Fly C own x e σ h₀ h:=by
 obtain⟨a,o,v,k,N,R,Q,z,j,Z,M,n,F,q,c⟩:=f;refine⟨a,o,v,k,N,R,Q,st.live _ z,j,Z,M,n,F,q.imp id ?_,c.from st⟩;rintro ⟨T,W,t,A,I,O,w,y,r,K,U⟩;exact⟨T,W,t,A,I,O,w,st.live _ y,r,K,U⟩
theorem Fly.weak{own:Option Jg}(f:Fly C Jb x e σ h₀ h):Fly C own x e σ h₀ h:=by
 obtain⟨a,o,v,k,N,R,Q,F,j,Z,M,n,P,q,c⟩:=f;refine⟨a,o,v,k,N,R,Q,F,j,Z,M,n,P,q.imp id ?_,c⟩;rintro ⟨T,W,t,A,I,S,w,d,r,y,U⟩;exact⟨T,W,t,A,I,S,w,d,r,y,U.imp id λB=>by obtain⟨L,z,o0⟩:=B;exact(ns z)⟩
inductive VP(C:Cx)(S:Jg->Prop)(σ:PH)(s:Je)(Q:Post)(v:Jf)(s':Je):Prop
 |mk (p:PV) (σ':PH) (a:VR C σ' s'.heap p v) (b:Sim C σ' s'.heap) (c:Step S σ s.heap σ' s'.heap) (d:Rest s s') (e:Q p σ'):VP C S σ s Q v s'
inductive VPs(C:Cx)(S:Jg->Prop)(σ:PH)(s:Je)(Q:List PV->PH->Prop)(v:List Jf)(s':Je):Prop
 |mk (p:List PV) (σ':PH) (a:VRs C σ' s'.heap p v) (b:Sim C σ' s'.heap) (c:Step S σ s.heap σ' s'.heap) (d:Rest s s') (e:Q p σ'):VPs C S σ s Q v s'
inductive XP(C:Cx)(S:Jg->Prop)(σ:PH)(s:Je)(X:XPost)(e:Jf)(s':Je):Prop
 |mk (x:PX) (σ':PH) (a:Fly C Option.none x e σ' s.heap s'.heap) (b:Sim C σ' s'.heap) (c:Step S σ s.heap σ' s'.heap) (d:Rest s s') (q:X x σ'):XP C S σ s X e s'
theorem VP.from{S:Jg->Prop}{s m:Je}(st:Step S σ s.heap o m.heap)(r:Rest s m)(x:VP C S o m Q v s'):VP C S σ s Q v s':=
 by obtain⟨p,X,a,b,c,d,e⟩:=x;exact⟨p,X,a,b,st.trans c,r.trans d,e⟩
theorem XP.from{S:Jg->Prop}{s m:Je}(st:Step S σ s.heap o m.heap)(r:Rest s m)(x:XP C S o m X v s'):XP C S σ s X v s':=
 by obtain⟨p,T,a,b,c,d,e⟩:=x;exact⟨p,T,a.from st,b,st.trans c,r.trans d,e⟩
def Frs(C:Cx)(σ:PH)(h:Ji)(l:List Js):Prop:=
 ∀e∈l,e.scope.kind≠ .module/\X4 λL o s n=>A5 (e.frame=Ja L) (C.B.get? L=Jb) (σ L=Jb) (h.get? L=Ja o)<|o.data= .dict s n
theorem Frs.step{S:Jg->Prop}(f:Frs C σ h l)(st:Step S σ h σ' A)(E:∀env∈l,∀L,env.frame=Ja L->¬S L):Frs C σ' A l:=λenv e=>by
 obtain⟨k,L,o,U,n,T,w,X,u,V⟩:=f env e;obtain⟨q,i,m,N⟩:=st.keep L o u X;have N:=N λs=>absurd s<|E env e L T;exact⟨k,L,i,U,n,T,w,q,m,N.2.2.1.trans V⟩
theorem Frs.fun{C:Cx}{h:Ji}:∀ {l:List Js},Frs C σ h l->h.FunFrames C.B l
 |[]=>λo0=>trivial
 |env::r=>λf=>by
  obtain⟨k,L,o,s,n,T,w,X,u,V⟩:=f env<|.head _;exact⟨k,⟨L,o,T,w,u,λv q=>by rw[V] at q;cases q⟩,Frs.fun λe O=>f e<|.tail _ O⟩
structure AOK(C:Cx)(n:Nat)(A:Jj)(l:List Js)(σ:PH)(h:Ji):Prop where
 depth:A.depth+n+2<J1
 units:A.units+30*n+300<cLine
 stack:A.frames=Ja l
 frs:Frs C σ h l
 calm:C.calm->A.handled=Jb
structure EnvR(C:Cx)(env:Js)(ρ:Rho)(σ:PH)(h:Ji):Prop where
 fn:env.scope.kind= .function
 glob:env.globals=JA
 blt:env.builtins=builtinsNs
 ns:∃m,h.Ns env.locals m/\∀x p,ρ.get x=Ja p->env.kindOf (Qb x)=Ja .local->∃v,m (Qb x)=Ja v/\VR C σ h p v
 cell:∀x p,ρ.get x=Ja p->env.kindOf (Qb x)=Ja .cell\/env.kindOf (Qb x)=Ja .free->X2 λc v=>A3 (env.cells.lookup (Qb x)=Ja c) (h.IsCell c<|Ja v)<|VR C σ h p v
 newL:σ env.locals=Jb
 baseL:C.B.get? env.locals=Jb
 baseC:∀x c,env.cells.lookup x=Ja c->C.B.get? c=Jb
 newC:∀x c,env.cells.lookup x=Ja c->σ c=Jb/\∃v,h.IsCell c v
 apart:∀x y c,env.cells.lookup x=Ja c->env.cells.lookup y=Ja c->x=y
 hasC:∀x,env.kindOf x=Ja .cell\/env.kindOf x=Ja .free->∃c,env.cells.lookup x=Ja c
theorem Ns.like{h A:Ji}{m:Jq->Option Jf}(x:h.Ns a m)(k:∀o,h.get? a=Ja o->∃o',A.get? a=Ja o'/\Like o o'):A.Ns a m:=
 by obtain⟨o,s,p,e,r⟩:=x;obtain⟨o',g,l⟩:=k o e;exact⟨o',s,p,g,l.2.2.1.trans r.1,r.2⟩
theorem IsCell.like{h A:Ji}(x:h.IsCell a v)(k:∀o,h.get? a=Ja o->∃o',A.get? a=Ja o'/\Like o o'):A.IsCell a v:=
 by obtain⟨o,e,r⟩:=x;obtain⟨o',g,l⟩:=k o e;exact⟨o',g,l.2.2.1.trans r⟩
theorem EnvR.step(x:EnvR C env L σ h)(st:Step none1 σ h σ' A):EnvR C env L σ' A where
 fn:=x.fn
 glob:=x.glob
 blt:=x.blt
 ns:=by
  obtain⟨m,n,hv⟩:=x.ns;refine⟨m,Ns.like n λo e=> ?_,λy p T w=>by obtain⟨v,a,b⟩:=hv y p T w;exact⟨v,a,b.step st⟩⟩;obtain⟨o0,i,g,l⟩:=st.keep _ o e x.newL;exact⟨i,g,l λf=>f.elim⟩
 cell:=λy p T w=>by
  obtain⟨c,v,a,b,d⟩:=x.cell y p T w;refine⟨c,v,a,IsCell.like b λo e=> ?_,d.step st⟩;obtain⟨o0,i,g,l⟩:=st.keep _ o e (x.newC _ c a).1;exact⟨i,g,l λf=>f.elim⟩
 newL:=by
  obtain⟨m,⟨o,U,s,e,o0⟩,o0⟩:=x.ns;exact(st.keep _ o e x.newL).1
 newC:=λy c e=>by
  obtain⟨a,v,o,b,d⟩:=x.newC y c e;obtain⟨q,i,g,l⟩:=st.keep _ o b a;exact⟨q,v,i,g,(l λf=>f.elim).2.2.1.trans d⟩
 baseL:=x.baseL
 baseC:=x.baseC
 apart:=x.apart
 hasC:=x.hasC
theorem AOK.step{h S:Ji}(x:AOK C n A l σ h)(st:Step none1 σ h σ' S):AOK C n A l σ' S:=
 ⟨x.depth,x.units,x.stack,x.frs.step st λo0 o0 o0 o0 f=>f,x.calm⟩
noncomputable def nm(y:Jq)(x:String):Bool:=y==Qb x
noncomputable def isLoc(sc:Jk)(y:Jq):Bool:=sc.names.lookup y==Ja .local||sc.names.lookup y==Ja .cell||sc.names.lookup y==Ja .free
noncomputable def isOwn(sc:Jk)(y:Jq):Bool:=sc.names.lookup y==Ja .local||sc.names.lookup y==Ja .cell
noncomputable def l7(sc:Jk)(y:Jq):Bool:=sc.names.lookup y==Ja .globalImplicit
noncomputable def bG(y:Jq):Bool:= !(y==("__debug__":Jq))&& !(y==("__classdict__":Jq))
noncomputable def BOp.py:BOp->Operator
 | .add=> .Add| .sub=> .Sub| .mul=> .Mult| .fdiv=> .FloorDiv| .mod=> .Mod| .pow _=> .Pow
noncomputable def COp.py:COp->CmpOp
 | .eq=> .Eq| .ne=> .NotEq| .lt=> .Lt| .le=> .LtE| .gt _=> .Gt| .ge=> .GtE| .in_=> .In| .nin=> .NotIn
noncomputable def mOp(a:BOp)(o:Operator):Bool:=decide<|o=a.py
noncomputable def mC(a:COp)(o:CmpOp):Bool:=decide<|o=a.py
noncomputable def BI.nm:BI->String
 | .len=>"len"| .all=>"all"| .sum=>"sum"| .int=>"int"| .list=>"list"| .min=>"min"| .sorted=>"sorted"| .dict _=>"dict"| .any=>"any"| .abs=>"abs"
noncomputable def Me.nm:Me->String
 | .append=>"append"
def glb(sc:Jk)(x:String):Jl->Bool
 | .Name y _=>Vl.Internal.nm y x&&l7 sc y&&bG y
 |_=>Jd
noncomputable def eF(sc:Jk):List String->List Jl->Bool
 |[],[]=>Jc
 |x::s,.Name y _::r=>Vl.Internal.nm y x&&isOwn sc y&&bG y&& !s.contains x&&eF sc s r
 |_,_=>Jd
def mTg(sc:Jk):Tg->Jl->Bool
 | .name x,.Name y _=>Vl.Internal.nm y x&&isOwn sc y&&bG y
 | .tup s,.Tuple e _ _=>eF sc s e
 |_,_=>Jd
noncomputable def kN(sc:Jk):List String->List Jl->Bool
 |[],[]=>Jc
 |t::v,e::s=>glb sc t e&&kN sc v s
 |_,_=>Jd
noncomputable def oneT(f:String->Bool):List String->Bool
 |[t]=>f t
 |_=>Jd
def mType(sc:Jk)(v:List String):Jl->Bool
 | .Tuple s _ _=>kN sc v s&&(decide (2<=s.length)&&decide (s.length<=100))
 |e=>oneT (λt=>glb sc t e) v
noncomputable def eW(sc s:Jk):Bool:=
 s.kind== .function&& !s.isGenerator&& !s.isCoroutine&&(s.names.all λ(n,k)=>k != .free||sc.names.lookup n==Ja .cell||sc.names.lookup n==Ja .free)&&
 (s.names.all λ(n,k)=>s.names.lookup n==Ja k)&&decide ((s.names.map (·.1)).Nodup)
noncomputable def ownOk(tg:Tg)(s:Jk):Bool:=s.names.all λ(n,k)=>(k != .local&&k != .cell)||(".0"::tg.names).any λx=>Vl.Internal.nm n x
noncomputable def bN(f:String):Bool:= !f.toList.contains '.'
noncomputable def eP:Jl->Bool
 | .Call _ [] _ _=>Jd
 |_=>Jc
noncomputable def xk:Jl->Nat
 | .Constant .. =>0| .Name .. =>1| .BinOp .. =>2| .UnaryOp .. =>3| .BoolOp .. =>4| .Compare .. =>5| .Tuple .. =>7| .List .. =>8| .Subscript .. =>10| .ListComp .. =>11| .Call .. =>12| .Attribute .. =>13| .Slice .. =>14| .Dict .. =>15
 |_=>99
def kz(x:Jl):Bool:= !(xk x==99)
noncomputable def sk:Jo->Nat
 | .Assign .. =>0| .Expr .. =>1| .Return .. =>2| .If .. =>3| .For .. =>4| .While .. =>5| .Raise .. =>6| .Try .. =>7
 |_=>99
abbrev XB:=Jl->Bool
noncomputable def tH(f:Const->Bool):XB| .Constant c _ _=>f c|_=>Jd
def qName(f:Jq->Bool)(x:String):XB| .Name y _=>Vl.Internal.nm y x&&f y&&bG y|_=>Jd
def qBin(p:BOp)(f g:XB):XB| .BinOp l o r _=>mOp p o&&f l&&g r|_=>Jd
noncomputable def qUn(u:UnaryOp)(f:XB):XB| .UnaryOp o x _=>decide (o=u)&&f x|_=>Jd
noncomputable def qBool(u:BoolOp)(f g:XB):XB
 | .BoolOp o [x,y] _=>decide (o=u)&&(f x&&g y)
 | .BoolOp o (x::y::z::r) p=>decide (o=u)&&(f x&&g (.BoolOp o (y::z::r) p))
 |_=>Jd
noncomputable def qIs(u:CmpOp)(f g:XB):XB| .Compare l [o] [c] _=>decide (o=u)&&(f l&&g c)|_=>Jd
def qCmp(p:COp)(f g:XB):XB| .Compare l [o] [r] _=>mC p o&&f l&&g r&& !(JH o r)|_=>Jd
def qCmp2(o P:COp)(f g h:XB):XB| .Compare l [n,p] [m,r] _=>mC o n&&mC P p&&f l&&g m&&h r&& !(JH p r)|_=>Jd
noncomputable def qTup(f:List Jl->Bool):XB| .Tuple e _ _=>f e&&decide (e.length<=100)|_=>Jd
noncomputable def qList(f:List Jl->Bool):XB| .List es _=>f es&&decide (es.length<=100)|_=>Jd
noncomputable def qSub(f g:XB):XB| .Subscript x y _=>f x&&g y|_=>Jd
def qComp(sc:Jk)(tg:Tg)(f:XB)(g:Jk->XB):XB| .ListComp e [⟨t,i,[],a⟩] s _=>decide (a=0)&&(f i&&mTg s tg t&&g s e&&eW sc s&&ownOk tg s)|_=>Jd
def qL(sc:Jk)(tg:Tg)(f:XB)(g h:Jk->XB):XB| .ListComp e [⟨t,i,[c],a⟩] s _=>decide (a=0)&&(f i&&mTg s tg t&&g s e&&h s c&&eW sc s&&ownOk tg s)|_=>Jd
noncomputable def qCall(f:XB)(g:List Jl->Bool):XB| .Call x a [] _=>f x&&g a|_=>Jd
noncomputable def qMeth(f:Pos->XB)(g:List Jl->Bool):XB| .Call x a [] q=>f q x&&g a|_=>Jd
def qAttr(a:String)(f:XB)(g:Pos->Bool):XB| .Attribute x y p=>f x&&eP x&&Vl.Internal.nm y a&&g p|_=>Jd
noncomputable def one1(f:XB):List Jl->Bool|[x]=>f x|_=>Jd
noncomputable def two2(f g:XB):List Jl->Bool|[x,y]=>f x&&g y|_=>Jd
def hCst(c:Const):XB:=λx=>xk x==0&&tH (λd=>decide (d=c)) x
def hNone:XB:=hCst .none
def hName(f:Jq->Bool)(x:String):XB:=λe=>xk e==1&&qName f x e
def hBin(o:BOp)(f g:XB):XB:=λx=>xk x==2&&qBin o f g x
def hNot(f:XB):XB:=λx=>xk x==3&&qUn .Not f x
def hAnd(f g:XB):XB:=λx=>xk x==4&&qBool .And f g x
def hOr(f g:XB):XB:=λx=>xk x==4&&qBool .Or f g x
def wV(f:XB):XB:=λx=>xk x==5&&qIs .Is f hNone x
def t1(f:XB):XB:=λx=>xk x==5&&qIs .IsNot f hNone x
def hCmp(o:COp)(f g:XB):XB:=λx=>xk x==5&&qCmp o f g x
def hCmp2(o P:COp)(f g h:XB):XB:=λx=>xk x==5&&qCmp2 o P f g h x
def hTup(f:List Jl->Bool):XB:=λx=>xk x==7&&qTup f x
def hList(f:List Jl->Bool):XB:=λx=>xk x==8&&qList f x
def hSub(f g:XB):XB:=λx=>xk x==10&&qSub f g x
def hComp(sc:Jk)(tg:Tg)(f:XB)(g:Jk->XB):XB:=λx=>xk x==11&&qComp sc tg f g x
def rr(sc:Jk)(tg:Tg)(f:XB)(g h:Jk->XB):XB:=λx=>xk x==11&&qL sc tg f g h x
def hCl(f:XB)(g:List Jl->Bool):XB:=λx=>xk x==12&&qCall f g x
def hCall(sc:Jk)(n:String)(f:List Jl->Bool):XB:=hCl (λx=>glb sc n x&&bN n) λa=>f a&&decide (a.length<=20)
def hBi1(sc:Jk)(n:String)(f:List Jl->Bool):XB:=hCl (glb sc n) λa=>f a&&decide (a.length<=20)
def hIsi(sc:Jk)(t:List String)(f:XB):XB:=hCl (glb sc "isinstance")<|two2 f (mType sc t)
def hAt(a:String)(f:XB)(g:Pos->Bool):XB:=λx=>xk x==13&&qAttr a f g x
noncomputable def sC:XB| .Dict [] [] _=>Jc|_=>Jd
def tx:XB:=λx=>xk x==15&&sC x
def hEmp:XB:=hList λe=>e.isEmpty
noncomputable def mOf(f:String):String:=String.ofList ((f.toList.dropWhile (· !='.')).drop 1)
noncomputable def cOf(f:String):String:=String.ofList (f.toList.takeWhile (· !='.'))
def hMc(m:String)(f:XB)(g:List Jl->Bool):XB:=λx=>xk x==12&&qMeth (λq=>hAt m f λp=>p.endLine==q.line) g x
def hAttr(a:String)(f:XB):XB:=hAt a f λo0=>Jc
noncomputable def Tg.isTup:Tg->Bool| .tup _=>Jc|_=>Jd
def qIt(sc:Jk)(k:IK)(tg:Tg)(f:List Jl->Bool):XB:=match k with
 | .val=>λx=>f [x]
 | .range=>hCl (glb sc "range") λa=>f a&&decide (a.length=1)
 | .zip=>hCl (glb sc "zip") λa=>f a&&(decide (a.length=2)&&tg.isTup)
mutual
noncomputable def mE(sc:Jk):E->Jl->Bool
 | .none=>hNone
 | .bool b=>hCst<|.bool b
 | .int i=>hCst<|.int i
 | .str s=>hCst<|.str (Qb s)
 | .loc x=>hName (isLoc sc) x
 | .glob x=>hName (l7 sc) x
 | .bin op a b=>hBin op (mE sc a)<|mE sc b
 | .not_ a=>hNot<|mE sc a
 | .and_ a b=>hAnd (mE sc a)<|mE sc b
 | .or_ a b=>hOr (mE sc a)<|mE sc b
 | .isNone a=>wV<|mE sc a
 | .notNone a=>t1<|mE sc a
 | .cmp op a b=>hCmp op (mE sc a)<|mE sc b
 | .cmp2 a o1 b o2 c=>hCmp2 o1 o2 (mE sc a) (mE sc b)<|mE sc c
 | .tup l=>hTup<|mEs sc l
 | .list l=>hList<|mEs sc l
 | .sub a i=>hSub (mE sc a)<|mE sc i
 | .comp elt tg k it=>hComp sc tg (qIt sc k tg (mEs sc it)) λsc'=>mE sc' elt
 | .compIf elt tg k it c=>rr sc tg (qIt sc k tg (mEs sc it)) (λsc'=>mE sc' elt) λsc'=>mE sc' c
 | .call f args=>hCall sc f<|mEs sc args
 | .bi b args=>hBi1 sc b.nm<|mEs sc args
 | .isi a ts=>hIsi sc ts λx=>kz x&&mE sc a x
 | .meth o m args=>hMc m.nm (mE sc o) λas=>mEs sc args as&&decide (as.length=1)
 | .dict0=>tx
 | .get a k=>hMc "get" (mE sc a) (two2 (λx=>kz x&&mE sc k x) hEmp)
 | .sd a k=>hMc "setdefault" (mE sc a) (two2 (λx=>kz x&&mE sc k x) hEmp)
 | .attr x f=>hAttr f<|hName (isLoc sc) x
 | .mcall c f o args=>hMc (mOf f) (mE sc o) λas=>mEs sc args as&&(decide (as.length<=20)&& !bN f&&(cOf f==c))
noncomputable def mEs(sc:Jk):List E->List Jl->Bool
 |[],[]=>Jc
 |a::as,x::xs=>(kz x&&mE sc a x)&&mEs sc as xs
 |_,_=>Jd
end
def mIt(sc:Jk)(k:IK)(tg:Tg)(i:List E):XB:=qIt sc k tg<|mEs sc i
noncomputable def E.isC:E->Bool
 | .comp .. | .compIf .. =>Jc
 |_=>Jd
abbrev SB:=Jo->Bool
abbrev SBs:=List Jo->Bool
noncomputable def rAsg(f h:XB):SB| .Assign [t] v _=>f t&&h v|_=>Jd
noncomputable def rExpr(f:XB):SB| .Expr v _=>f v|_=>Jd
noncomputable def rRet(f:XB):SB| .Return (Ja v) _=>f v|_=>Jd
noncomputable def rIf(f:XB)(g h:SBs):SB| .If x y z _=>f x&&g y&&h z|_=>Jd
noncomputable def rFor(f g:XB)(h:SBs):SB| .For t i y [] _=>f t&&g i&&h y|_=>Jd
noncomputable def ub(f:XB)(h:SBs):SB| .While t y [] _=>f t&&h y|_=>Jd
noncomputable def uR(f:XB):SB| .Raise (Ja x) Jb _=>f x|_=>Jd
noncomputable def rTry(f:SBs)(g:List J4->Bool):SB| .Try y h [] [] _=>f y&&g h|_=>Jd
def rHd(sc:Jk)(c:String)(g:SBs):J4->Bool| .ExceptHandler (Ja t) n (z::r) _=>glb sc c t&&n.isNone&&g (z::r)|_=>Jd
noncomputable def rH1(f:J4->Bool):List J4->Bool|[h]=>f h|_=>Jd
def hOwn(sc:Jk)(x:String):XB:=λe=>xk e==1&&qName (isOwn sc) x e
noncomputable def qTupT(f:List Jl->Bool):XB| .Tuple e _ _=>f e|_=>Jd
def hTupT(f:List Jl->Bool):XB:=λe=>xk e==7&&qTupT f e
def kAsg(f h:XB):SB:=λx=>sk x==0&&rAsg f h x
def kExpr(f:XB):SB:=λx=>sk x==1&&rExpr f x
def kRet(f:XB):SB:=λx=>sk x==2&&rRet f x
def kIf(f:XB)(g h:SBs):SB:=λx=>sk x==3&&rIf f g h x
def kFor(f g:XB)(h:SBs):SB:=λx=>sk x==4&&rFor f g h x
def sU(f:XB)(h:SBs):SB:=λx=>sk x==5&&ub f h x
def t5(f:XB):SB:=λx=>sk x==6&&uR f x
def kTry(f:SBs)(g:List J4->Bool):SB:=λx=>sk x==7&&rTry f g x
mutual
noncomputable def mS(sc:Jk):S->Jo->Bool
 | .assign (.name x) e=>kAsg (hOwn sc x) λv=>(kz v&&(!(xk v==11)||e.isC))&&mE sc e v
 | .assign (.tup xs) e=>kAsg (hTupT (eF sc xs)) λv=>(kz v&& !(xk v==7))&&mE sc e v
 | .setIdx o i e=>kAsg (hSub (mE sc o) (mE sc i)) λv=>kz v&&mE sc e v
 | .expr e=>kExpr λv=>xk v==12&&mE sc e v
 | .ret e=>kRet<|mE sc e
 | .if_ t b o=>kIf (mE sc t) (mSs sc b)<|mSs sc o
 | .for_ tg k it b=>kFor (mTg sc tg) (mIt sc k tg it)<|mSs sc b
 | .while_ t b=>sU (mE sc t)<|mSs sc b
 | .raise c args=>t5<|hBi1 sc c (mEs sc args)
 | .try1 b c h=>kTry (mSs sc b)<|rH1 (rHd sc c<|mSs sc h)
noncomputable def mSs(sc:Jk):List S->List Jo->Bool
 |[],[]=>Jc
 |a::as,x::xs=>mS sc a x&&mSs sc as xs
 |_,_=>Jd
end
section
open PySem.W PyProof.Rows
structure Fn where
 f:String
 ps:List String
 ls:List String
 b:List S
structure Cls where
 nm:String
 as:List String
 fs:List String
 es:List E
 ms:List Fn
structure Kinds where
 cs:List String
 mks:List String
 inis:List String
 flds:String->List String
 sub:String->String->Bool
 cl:List Cls
noncomputable def bZ(K:Frag)(c:String):Option Jg:=match nsIn K JA (Qb c) with
 |some (Ja (.ref a))=>Ja a
 |_=>Jb
def s7(K:Frag)(k:Kinds)(c:String):Bool:=match bZ K c with
 |some a=>((k.flds c).all λf=>findIn K (.ref a) (Qb f)==Ja Jb)&&k.cs.all λd=>match bZ K d with
  |some b=>exmOne K (.ref a) (.ref b)==Ja (k.sub c d)
  |none=>Jd
 |none=>Jd
def j4(K:Frag)(k:Kinds):Bool:=k.cs.all<|s7 K k
noncomputable def yO(o:Jp):List Jg:=match o.data with
 | .cls cd=>[cd.ns]
 |_=>[]
def ye(h:Ji)(cs:List String):List Jg:=JA::cs.flatMap λc=>match h.nsMap JA (Qb c) with
 |some (.ref a)=>match h.get? a with
  |some o=>a::yO o
  |none=>[]
 |_=>[]
noncomputable def g9(h:Ji)(as:List Jg):Frag:=as.filterMap λa=>(h.get? a).map λo=>(a,o)
noncomputable def mIni(sc:Jk):List String->List Jo->Bool
 |[],[]=>Jc
 |x::xs,y::ys=>kAsg (hAttr x<|hName (isLoc sc) "self") (hName (isLoc sc) x) y&&mIni sc xs ys
 |_,_=>Jd
noncomputable def mo(ps:List String):Arguments->Bool
 |⟨[],as,Jb,[],_,Jb,_⟩=>as.map (·.arg)==ps.map Qb
 |_=>Jd
noncomputable def refOf:Option Jf->Option Jg
 |some (.ref a)=>Ja a
 |_=>Jb
noncomputable def clsOf:Data->Option ClassData
 | .cls cd=>Ja cd
 |_=>Jb
noncomputable def mz(h:Ji):List Jf->Bool
 |[]=>Jd
 |v::tl=>(v::tl==bmE)||(refOf (Ja v)).any λA=>(h.get? A).any λo=>(clsOf o.data).any λcd=>h.isNs cd.ns&&(h.nsMap cd.ns "__init__").isNone&&mz h tl
def fnIni(h:Ji)(fd:Jr)(names:List String)(body:List Jo):Bool:=
 (h.codeRecOk fd.code fd.qualname&&fd.closure.isEmpty&&(fd.defaults== .none))&&(mo ("self"::names) fd.params&&(("self"::names).all λx=>fd.scope.names.lookup (Qb x)==Ja .local&& !(Qb x==("__debug__":Jq)))&&decide ("self"::names).Nodup)&&
  (!fd.scope.isCoroutine&& !fd.scope.isGenerator&&(fd.scope.kind== .function))&&mIni fd.scope names body
noncomputable def pS:FuncBody->Option (List Jo)
 | .stmts b=>Ja b
 |_=>Jb
noncomputable def p9:Data->Option Jr
 | .func fd=>Ja fd
 |_=>Jb
def fnObj(h:Ji)(names:List String)(o:Jp):Bool:=(o.cls== .type "function")&&((p9 o.data).any λfd=>(pS fd.body).any λbody=>fnIni h fd names body)
noncomputable def qk(l:List (Option Jf)):Bool:=l==[l[0]?.getD Jb,l[1]?.getD Jb,l[2]?.getD Jb,l[3]?.getD Jb,Ja<|.builtin "ValueError.__new__",l[5]?.getD Jb]
def mroOK(h:Ji)(k:Jg):List Jf->Bool
 |v::bm=>(v== .ref k)&&mz h bm
 |[]=>Jd
def yU(h:Ji)(k:Jg)(names:List String)(o:Jp)(cd:ClassData):Bool:=
 ((o.cls== .type "type")&&qk o.slots.toList&&mroOK h k cd.mro)&&(cd.hasDict&& !cd.hasDel&&h.isNs cd.ns)&&((refOf<|h.nsMap cd.ns "__init__").any λfI=>(h.get? fI).any (fnObj h names))
def iniOK(h:Ji)(K:Frag)(k:Jg)(names:List String):Bool:=
 ((h.get? k).any λo=>(clsOf o.data).any (yU h k names o))&&(findIn K (.ref k) "__setattr__"==Ja (Ja<|.builtin "object.__setattr__"))&& !names.isEmpty&&decide (names.length<=50)
def Ae(h:Ji)(K:Frag)(k:Kinds):Bool:=k.inis.all λc=>k.cs.contains c&&((bZ K c).any λa=>iniOK h K a (k.flds c))
def mAsg(sc:Jk)(f:String)(e:E):Jo->Bool:=kAsg (hAttr f (hName (isLoc sc) "self")) λv=>kz v&&mE sc e v
def fnB(h:Ji)(ps:List String)(fd:Jr):Bool:=
 (h.codeRecOk fd.code fd.qualname&&fd.closure.isEmpty&&(fd.defaults== .none))&&(fd.globals==JA&&(fd.builtins==builtinsNs)&&mo ps fd.params)&&
  ((ps.all λp=>fd.scope.names.lookup (Qb p)==Ja .local||fd.scope.names.lookup (Qb p)==Ja .cell)&&decide ps.Nodup&&(fd.scope.names.all λp=>p.2 != .free))&&(!fd.scope.isCoroutine&& !fd.scope.isGenerator&&(fd.scope.kind== .function))
def p7(h:Ji)(ps:List String)(mt:Jk->List Jo->Bool)(a:Jg):Bool:=(h.get? a).any λo=>(o.cls== .type "function")&&((p9 o.data).any λfd=>(pS fd.body).any λb=>fnB h ps fd&&mt fd.scope b)
noncomputable def mAsgs(sc:Jk):List String->List E->List Jo->Bool
 |[],[],[]=>Jc
 |f::fs,e::es,y::ys=>mAsg sc f e y&&mAsgs sc fs es ys
 |_,_,_=>Jd
def initM(c:Cls)(sc:Jk)(b:List Jo):Bool:=mAsgs sc c.fs c.es b
noncomputable def uE(l:List (Option Jf)):Bool:=l==[l[0]?.getD Jb,l[1]?.getD Jb,l[2]?.getD Jb,l[3]?.getD Jb,Ja<|.builtin "object.__new__",l[5]?.getD Jb]
def yu(h:Ji)(c:Cls)(a:Jg)(o:Jp)(cd:ClassData):Bool:=
 ((o.cls== .type "type")&&uE o.slots.toList&&(cd.mro==[.ref a,.type "object"]))&&(cd.hasDict&& !cd.hasDel&& !cd.abstract)&&(h.isNs cd.ns&&(h.nsMap cd.ns "__setattr__").isNone&&(c.fs.all λf=>(h.nsMap cd.ns<|Qb f).isNone&&(fastLookup "object" (Qb f)==Ja Jb)))&&
  ((refOf<|h.nsMap cd.ns "__init__").any (p7 h ("self"::c.as)<|initM c))
def methB(h:Ji)(K:Frag)(c:Cls)(a:Jg)(t:Fn):Bool:=(!bN t.f&&(cOf t.f==c.nm))&& !(c.fs.contains (mOf t.f))&&((refOf ((findIn K (.ref a) (Qb (mOf t.f))).getD Jb)).any λm=>(typeIn K (.ref m)==Ja (.type "function"))&&p7 h t.ps (λsc b=>mSs sc t.b b) m)
def clsB(h:Ji)(K:Frag)(c:Cls)(a:Jg):Bool:=
 ((h.get? a).any λo=>(clsOf o.data).any (yu h c a o))&&((findIn K (.ref a) "__getattribute__"==Ja (Ja<|.builtin "object.__getattribute__"))&&(findIn K (.ref a) "__getattr__"==Ja Jb)&&hasDictIn K a&&(c.fs.all λf=>findIn K (.ref a) (Qb f)==Ja Jb))&&
  c.ms.all (methB h K c a)&&(decide c.fs.Nodup&&bN c.nm&&decide (c.fs.length<=50))
def vY(h:Ji)(c:Cls):List Jg:=((refOf (h.nsMap JA (Qb c.nm))).bind λa=>(h.get? a).bind λo=>(clsOf o.data).map λcd=>c.ms.filterMap λt=>refOf (h.nsMap cd.ns (Qb (mOf t.f)))).getD []
def kFrag(h:Ji)(k:Kinds):Frag:=g9 h (ye h (k.cs++k.cl.map (·.nm))++k.cl.flatMap (vY h))
def clsK(h:Ji)(K:Frag)(k:Kinds):Bool:=k.cl.all λc=>(bZ K c.nm).any (clsB h K c)
noncomputable def dp:Fn:=⟨"Bounds.greatest",["self","place","enough"],["counts","goal","came","raised","lowered","start","amount"],
 [.assign (.name "counts") (.bi (.dict ()) [.attr "self" "counts"]),
  .assign (.name "goal") (.tup [.glob "ROW",.sub (.loc "place") (.int 0)]),
  .while_ (.bool Jc) [.assign (.name "came") (.call "reached" [.attr "self" "near",.loc "counts",.list [.tup [.glob "COLUMN",.sub (.loc "place") (.int 1)]],.loc "place"]),.if_ (.or_ (.cmp .nin (.loc "goal") (.loc "came")) (.and_ (.notNone (.loc "enough")) (.cmp .ge (.sub (.loc "counts") (.loc "place")) (.loc "enough")))) [.ret (.tup [.loc "counts",.loc "came"])] [],.assign (.tup ["raised","lowered","start"]) (.call "way_to" [.loc "came",.loc "goal"]),.assign (.name "amount") (.bi .min [.comp (.sub (.loc "counts") (.loc "other")) (.name "other") .val [.loc "lowered"]]),.expr (.call "move" [.loc "counts",.bin .add (.loc "raised") (.list [.loc "place"]),.loc "lowered",.loc "amount"])]]⟩
noncomputable def eg:Fn:=⟨"Bounds.least",["self","place","enough"],["counts","goal","came","raised","lowered","start","amount"],
 [.assign (.name "counts") (.bi (.dict ()) [.attr "self" "counts"]),
  .assign (.name "goal") (.tup [.glob "COLUMN",.sub (.loc "place") (.int 1)]),
  .while_ (.bool Jc) [.assign (.name "came") (.call "reached" [.attr "self" "near",.loc "counts",.list [.tup [.glob "ROW",.sub (.loc "place") (.int 0)]],.loc "place"]),.if_ (.or_ (.cmp .nin (.loc "goal") (.loc "came")) (.or_ (.cmp .eq (.sub (.loc "counts") (.loc "place")) (.int 0)) (.and_ (.notNone (.loc "enough")) (.cmp .le (.sub (.loc "counts") (.loc "place")) (.loc "enough"))))) [.ret (.tup [.loc "counts",.loc "came"])] [],.assign (.tup ["raised","lowered","start"]) (.call "way_to" [.loc "came",.loc "goal"]),.assign (.name "amount") (.bi .min [.comp (.sub (.loc "counts") (.loc "other")) (.name "other") .val [.bin .add (.loc "lowered") (.list [.loc "place"])]]),.expr (.call "move" [.loc "counts",.loc "raised",.bin .add (.loc "lowered") (.list [.loc "place"]),.loc "amount"])]]⟩
noncomputable def cx:Fn:=⟨"Bounds.is_given_away",["self","place","width"],["here","high"],
 [.assign (.name "here") (.sub (.attr "self" "counts") (.loc "place")),
  .assign (.name "high") (.sub (.sub (.mcall "Bounds" "Bounds.greatest" (.loc "self") [.loc "place",.bin .add (.loc "here") (.loc "width")])<|.int 0)<|.loc "place"),
  .if_ (.cmp .ge (.bin .sub (.loc "high")<|.loc "here")<|.loc "width") [.ret (.bool Jd)] [],
  .ret (.cmp .lt (.bin .sub (.loc "high") (.sub (.sub (.mcall "Bounds" "Bounds.least" (.loc "self") [.loc "place",.bin .sub (.loc "high") (.loc "width")]) (.int 0)) (.loc "place"))) (.loc "width"))]⟩
noncomputable def f_Bounds_walls:Fn:=⟨"Bounds.walls",["self","place","many_rows","many_columns"],["counts","came","low","rows","columns"],
 [.assign (.tup ["counts","came"]) (.mcall "Bounds" "Bounds.least" (.loc "self") [.loc "place",.none]),
  .assign (.name "low") (.tup [.int 0,.list [],.list []]),
  .if_ (.cmp (.gt ()) (.sub (.loc "counts")<|.loc "place")<|.int 0) [.assign (.name "low") (.tup [.sub (.loc "counts") (.loc "place"),.call "numbers_of" [.loc "came",.glob "ROW"],.call "numbers_of" [.loc "came",.glob "COLUMN"]])] [],
  .assign (.tup ["counts","came"]) (.mcall "Bounds" "Bounds.greatest" (.loc "self") [.loc "place",.none]),
  .assign (.name "rows") (.compIf (.loc "row") (.name "row") .range [.loc "many_rows"] (.cmp .nin (.tup [.glob "ROW",.loc "row"])<|.loc "came")),
  .assign (.name "columns") (.compIf (.loc "column") (.name "column") .range [.loc "many_columns"] (.cmp .nin (.tup [.glob "COLUMN",.loc "column"])<|.loc "came")),
  .ret (.tup [.loc "low",.tup [.sub (.loc "counts") (.loc "place"),.loc "rows",.loc "columns"]])]⟩
noncomputable def eQ:Fn:=⟨"Hider.small",["self","place"],[],
 [.ret (.call "is_small" [.attr "self" "table",.loc "place",.attr "self" "bound"])]⟩
noncomputable def dj:Fn:=⟨"Hider.bounds_of",["self","places"],["counts","row","column"],
 [.assign (.name "counts") (.dict0),
  .for_ (.tup ["row","column"]) .val [.loc "places"] [.setIdx (.loc "counts") (.tup [.loc "row",.loc "column"]) (.sub (.sub (.attr "self" "table")<|.loc "row")<|.loc "column")],
  .ret (.call "Bounds" [.loc "counts"])]⟩
noncomputable def ew:Fn:=⟨"Hider.peeled",["self","places"],["road","bounds","gone","place","low","high"],
 [.assign (.name "road") (.list []),
  .while_ (.bool Jc) [.assign (.name "bounds") (.mcall "Hider" "Hider.bounds_of" (.loc "self") [.loc "places"]),.assign (.name "gone") (.none),.for_ (.name "place") .val [.loc "places"] [.if_ (.and_ (.isNone (.loc "gone")) (.mcall "Bounds" "Bounds.is_given_away" (.loc "bounds") [.loc "place",.attr "self" "width"])) [.assign (.name "gone") (.loc "place")] []],.if_ (.isNone (.loc "gone")) [.ret (.tup [.loc "places",.loc "road"])] [],.assign (.tup ["low","high"]) (.mcall "Bounds" "Bounds.walls" (.loc "bounds") [.loc "gone",.bi .len [.attr "self" "table"],.bi .len [.sub (.attr "self" "table") (.int 0)]]),.expr (.meth (.loc "road") .append [.tup [.loc "gone",.loc "low",.loc "high"]]),.if_ (.mcall "Hider" "Hider.small" (.loc "self") [.loc "gone"]) [.ret (.tup [.none,.loc "road"])] [],.assign (.name "places") (.compIf (.loc "place") (.name "place") .val [.loc "places"] (.cmp .ne (.loc "place") (.loc "gone")))]]⟩
noncomputable def dY:Fn:=⟨"Hider.without",["self","places","place"],[],
 [.ret (.mcall "Hider" "Hider.peeled" (.loc "self") [.compIf (.loc "other") (.name "other") .val [.loc "places"] (.cmp .ne (.loc "other") (.loc "place"))])]⟩
noncomputable def er:Fn:=⟨"Hider.fewest",["self","places"],["place","fewer"],
 [.for_ (.name "place") .val [.bi .list [.loc "places"]] [.if_ (.and_ (.cmp .in_ (.loc "place") (.loc "places")) (.not_ (.mcall "Hider" "Hider.small" (.loc "self") [.loc "place"]))) [.assign (.name "fewer") (.sub (.mcall "Hider" "Hider.without" (.loc "self") [.loc "places",.loc "place"]) (.int 0)),.if_ (.notNone (.loc "fewer")) [.assign (.name "places") (.loc "fewer")] []] []],
  .ret (.loc "places")]⟩
def cls8:Cls:=⟨"Bounds",["counts"],["counts","near"],[.loc "counts",.call "near_of" [.bi .list [.loc "counts"]]],[dp,eg,cx,f_Bounds_walls]⟩
def cls9:Cls:=⟨"Hider",["table","bound","width"],["table","bound","width"],[.loc "table",.loc "bound",.loc "width"],[eQ,dj,ew,dY,er]⟩
def kinds7:Kinds:=⟨["VeilError","BadTable","BadView","BadPlace","BadNumber","NoTable","NotHidden"],["BadTable","BadView","BadPlace","BadNumber"],["NoTable","NotHidden"],λc=>cond (c=="NoTable") ["rows","columns"] (cond (c=="NotHidden") ["road"] (cond (c=="Bounds") ["counts","near"] (cond (c=="Hider") ["table","bound","width"] []))),λc d=>c==d||d=="VeilError"||d=="ValueError",[cls8,cls9]⟩
noncomputable def j0(tb:String->Option Builtin)(p:Jn)(w:Jm)(n₀:Nat)(ann:Option Jf):Nat->SharedT->Thread->Option SharedT
 |0,_,_=>Jb
 |n+1,s,t=>cond (through t) (Ja s) (cond (stepOk n₀ ann t) ((stepT (denote tb) p w s t).bind λq=>j0 tb p w n₀ ann n q.1 q.2) Jb)
noncomputable def mF:List Jp->BT->Nat->Option BT
 |[],t,_=>Ja t
 |o::os,t,n=>cond ((t.ins n o).get n).isSome (mF os (t.ins n o)<|n+1) Jb
def toT(s:Je):Option SharedT:=(mF s.heap.objs.toList .nil 0).map λt=>⟨t,s.heap.objs.size,s.heap.life,s.gens,s.drawn,s.toks,s.os⟩
def jv(tb:String->Option Builtin)(p:Jn)(w:Jm)(N:Nat)(s₀:Je):Option Je:=
 match s₀.heap.isNs JA&&s₀.gens.size==0 with
 |true=>((toT s₀).bind λsT=>j0 tb p w s₀.heap.objs.size (s₀.heap.nsMap JA "__annotations__") N sT (topStub p)).bind λs₁=>match staticsOk (importedModules p.main.body) s₀.heap s₁.abs.heap&&namesBound p s₁.abs.heap&&gensDone s₁.abs&&laidKept s₀.heap s₁.abs.heap with
   |true=>Ja s₁.abs
   |false=>Jb
 |false=>Jb
noncomputable def wI:Jo->Bool
 | .Assign [.Name n _] _ _=> !(n==Qb "__name__")
 |_=>Jc
def view7:Jn:={PySem.Challenge.rw_uf010011_11.prog with main:={PySem.Challenge.rw_uf010011_11.prog.main with body:=PySem.Challenge.rw_uf010011_11.prog.main.body.filter wI}}
def obsE(k:Kinds)(s:Je):Bool:=j4 (kFrag s.heap k) k&&Ae s.heap (kFrag s.heap k) k&&clsK s.heap (kFrag s.heap k) k
theorem hl8(w:Jm):Wn (λs=>(openSeen view7 [] (importedModules PySem.Challenge.rw_uf010011_11.row.prog.main.body) (λs=>recOk (RowW.records (OpenRow.toRowW (OpenLaw.row PySem.Challenge.rw_uf010011_11))) s) Jc s,obsE kinds7 s)) ((fencedOpening Y1 PySem.Challenge.rw_uf010011_11.row.prog w 20000).bind (jv Y1 PySem.Challenge.rw_uf010011_11.row.prog w 20000))=Ja (openGood view7 [],Jc):=by kernel_rfl
end
noncomputable abbrev Mo(C:Cx):Model:=Jt C.prog C.w
def Kp(C:Cx)(v:Jf):Prop:=∃k,(k=Keeper.frame\/k=Keeper.machine\/k=Keeper.boundFrame)/\W.Looks (Mo C) C.B (keeperOf v) k
noncomputable def bltNames:List String:=["len","all","any","sum","abs","int","list","tuple","dict","isinstance","range","bool","min","sorted","zip","max"]
structure GOK(C:Cx)(G:Gx)(mg mb:Jq->Option Jf):Prop where
 g:C.B.Ns JA mg
 b:C.B.Ns builtinsNs mb
 nolimit:C.B.NoLimit
 blt:∀x∈bltNames,
  mg (Qb x)=Jb/\mb (Qb x)=YX (Qb x)
 glob:∀x p,G.glob x=Ja p->∃v,mg (Qb x)=Ja v/\∀σ h,VR C σ h p v
 full:G.full=Jc->C.ok
 calm:G.calm=Jc->C.calm
 fv:∀f v,bN f=Jc->C.fv f=Ja v->mg (Qb f)=Ja v
 fn:∀f,G.fn f=Jc->∃v,C.fv f=Ja v/\Kp C v
def aO(C:Cx)(n:Nat):Cl:=λf args σ Q X=>
 ∃v,C.fv f=Ja v/\Kp C v/\∀ (A:Jj) (l:List Js) (s:Je) (w:List Jf),AOK C n A l σ s.heap->Sim C σ s.heap->VRs C σ s.heap args w->
  Jh (Mo C) A (call v w) (VP C none1 σ s Q) (XP C none1 σ s X) s
section
variable{C:Cx}{A:Jj}{Er:Jf->Je->Prop}{σ:PH}{s:Je}
theorem VP.to{S:Jg->Prop}{R:Jf->Je->Prop}{E:Jf->Je->Prop}(h:Jh (Mo C) A t (VP C S σ s Q) E s)
  (k:∀v W p σ1,VR C σ1 W.heap p v->Sim C σ1 W.heap->Step S σ s.heap σ1 W.heap->Rest s W->Q p σ1->R v W)(m:∀e W,E e W->Er e W):Jh (Mo C) A t R Er s:=
 YF h (λv W z=>by obtain⟨p,σ1,a,b,c,d,e⟩:=z;exact k v W p σ1 a b c d e) m
theorem VP.here{S:Jg->Prop}{s':Je}(m:Sim C σ s.heap)(h:s'.heap=s.heap)(r:Rest s s')(hv:VR C σ s.heap p v)(q:Q p σ):VP C S σ s Q v s':=
 ⟨p,σ,by rw[h];exact hv,by rw[h];exact m,by rw[h];exact .refl _ _ _,r,q⟩
end
section
variable{C:Cx}{G:Gx}{mg mb:Jq->Option Jf}{A:Jj}{Er:Jf->Je->Prop}{env:Js}{ρ:Rho}{σ:PH}{s:Je}
theorem lK{sc:Jk}(h:isLoc sc y=Jc):sc.names.lookup y=Ja .local\/sc.names.lookup y=Ja .cell\/sc.names.lookup y=Ja .free:=by
 simp only[isLoc,Yv,beq_iff_eq] at h
 rcases h with(h|h)|h
 ·exact .inl h
 ·exact .inr<|.inl h
 ·exact .inr<|.inr h
theorem k4{Q:Jf->Je->Prop}(e:EnvR C env ρ σ s.heap)(l:isLoc env.scope (Qb x)=Jc)(d:bG (Qb x)=Jc)(hx:ρ.get x=Ja p)
  (h:∀v,VR C σ s.heap p v->Q v s):Jh (Mo C) A (Jw (.Name (Qb x) pos) env) Q Er s:=by
 simp only[bG,QW,QS] at d;refine J6 ?_ d.1
 rcases lK l with k|k|k
 ·obtain⟨m,n,hv⟩:=e.ns;obtain⟨v,T,w⟩:=hv x p hx k;exact YQ e.fn k n T<|h v w
 ·obtain⟨c,v,T,w,X⟩:=e.cell x p hx<|.inl k;exact wpAny_loadName_cell e.fn k T w<|h v X
 ·obtain⟨c,v,T,w,X⟩:=e.cell x p hx<|.inr k;exact wpAny_loadName_free e.fn k T w (h v X) d.2
theorem iO{env:Js}(h:env.scope.kind= .function)(hx:env.kindOf x=Ja .globalImplicit):loadName env x=loadGlobal env x:=by
 unfold loadName;dsimp only[Env.blockKind];rw[h,hx];rfl
theorem j1{sc:Jk}(h:glb sc x e=Jc):∃pos,e= .Name (Qb x) pos/\sc.names.lookup (Qb x)=Ja .globalImplicit/\bG (Qb x)=Jc:=by
 induction e using Expr.casesOn with
 |Name y p=>
  obtain⟨h1,h3⟩:=Qh.mp (show(Vl.Internal.nm y x&&l7 sc y&&bG y)=Jc from h);obtain⟨h1,h2⟩:=Qh.mp h1;have h1:y=Qb x:=Y9 h1;subst h1;exact⟨_,rfl,Y9 h2,h3⟩
 |_=>exact bnx h
theorem im{Q:Jf->Je->Prop}(g:GOK C G mg mb)(e:EnvR C env ρ σ s.heap)(m:Sim C σ s.heap)
  (l:env.scope.names.lookup (Qb x)=Ja .globalImplicit)(d:bG (Qb x)=Jc)(hx:mg (Qb x)=Ja v)(h:Q v s):
  Jh (Mo C) A (Jw (.Name (Qb x) pos) env) Q Er s:=by
 simp only[bG,QW,QS] at d;refine J6 ?_ d.1;rw[iO e.fn l];refine Calls.loadGlobal_global ?_ hx h;rw[e.glob];exact g.g.keeps m.base
theorem hU{Q:Jf->Je->Prop}(g:GOK C G mg mb)(e:EnvR C env ρ σ s.heap)(m:Sim C σ s.heap)
  (l:env.scope.names.lookup (Qb x)=Ja .globalImplicit)(d:bG (Qb x)=Jc)
  (L:x∈bltNames)
  (hx:YX (Qb x)=Ja v)(h:Q v s):
  Jh (Mo C) A (Jw (.Name (Qb x) pos) env) Q Er s:=by
 simp only[bG,QW,QS] at d;refine J6 ?_ d.1;rw[iO e.fn l];obtain⟨T,w⟩:=g.blt x L;refine Calls.loadGlobal_builtin (v:=v) ?_ T ?_ (w.trans hx) h
 ·rw[e.glob];exact g.g.keeps m.base
 ·rw[e.blt];exact g.b.keeps m.base
end
section
variable{C:Cx}{σ:PH}{h h':Ji}
theorem Sim.lt(m:Sim C σ h)(e:σ a=Ja o):a<h.objs.size:=by obtain⟨o0,d,o0⟩:=m.objs a o e;exact QJ d
theorem Sim.fresh(m:Sim C σ h)(e:h.objs.size<=a):σ a=Jb:=by
 induction q:σ a with
 |none=>rfl
 |some o=>exact absurd (m.lt q)<|Kc.mpr e
theorem Sim.freshB(m:Sim C σ h)(e:h.objs.size<=a):C.B.get? a=Jb:=by
 induction q:C.B.get? a with
 |none=>rfl
 |some o=>exact absurd (QJ<|m.base a o q)<|Kc.mpr e
theorem Step.more{S:Jg->Prop}(k:∀b o,h.get? b=Ja o->h'.get? b=Ja o):Step S σ h σ h':=
 ⟨λb o e s=>⟨s,o,k b o e,λo0=> .refl o⟩,λb o e=>⟨o,e⟩,λo0 o0 e o0=>e,λb e=>by
  induction q:h.get? b with
  |none=>rfl
  |some o=>exact sn ((k b o q).symm.trans e)⟩
theorem Step.push(S:Jg->Prop)(σ:PH)(h:Ji)(W:Jp):Step S σ h σ (h.push W):= .more (λb o e=>Qw W e)
theorem Step.old{S:Jg->Prop}{h₀:Ji}(st:Step S B h₀ σ h)(m:Sim C σ h)(e:h.get? a=Jb):h₀.get? a=Jb:=by
 induction q:h₀.get? a with
 |none=>rfl
 |some o=>
  induction w:B a with
  |none=>obtain⟨o0,i,g,o0⟩:=st.keep a o q w;exact ns<|e.symm.trans g
  |some p=>obtain⟨Y,g⟩:=st.grow a p w;obtain⟨b,d,_⟩:=m.objs a Y g;exact ns<|e.symm.trans d
theorem Sim.step{S:Jg->Prop}(m:Sim C σ h)(st:Step S σ h σ h')(k:∀a o,σ a=Ja o->h'.get? a=h.get? a)(P:∀b o,C.B.get? b=Ja o->h'.get? b=Ja o):Sim C σ h' where
 base:=P
 new:=m.new
 objs:=λa o e=>by obtain⟨W,N,p⟩:=m.objs a o e;exact⟨W,(k a o e).trans N,p.step st⟩
 rich:=m.rich
theorem Sim.more(m:Sim C σ h)(k:∀b o,h.get? b=Ja o->h'.get? b=Ja o):Sim C σ h':=
 m.step (S:=none1) (.more k) (λa o e=>by obtain⟨W,N,o0⟩:=m.objs a o e;exact(k _ _ N).trans N.symm) λb o e=>k b o<|m.base b o e
theorem Sim.push(m:Sim C σ h)(W:Jp):Sim C σ (h.push W):=m.more (λb o e=>Qw W e)
theorem Sim.add{S:Jg->Prop}(m:Sim C σ h){o:PO}(st:Step S σ h (σ.set a o) h')(k:∀x o',σ x=Ja o'->h'.get? x=h.get? x)(M:∀b o,C.B.get? b=Ja o->h'.get? b=Ja o)
  (e:h'.get? a=Ja W)(b:C.B.get? a=Jb)(r:OR C (σ.set a o) h' o W)(n:o.needs C.ok a):Sim C (σ.set a o) h' where
 rich:=λx o' g=>by
  by_cases q:x=a
  ·subst q;rw[PH.set_same] at g;obtain rfl:=sj g;exact n
  ·rw[PH.set_ne _ _ q] at g;exact m.rich x o' g
 base:=M
 new:=λx o' g=>by
  by_cases q:x=a
  ·subst q;exact b
  ·rw[PH.set_ne _ _ q] at g;exact m.new x o' g
 objs:=λx o' g=>by
  by_cases q:x=a
  ·subst q;rw[PH.set_same] at g;obtain rfl:=sj g;exact⟨W,e,r⟩
  ·rw[PH.set_ne _ _ q] at g;obtain⟨P,N,p⟩:=m.objs x o' g;exact⟨P,(k x o' g).trans N,p.step st⟩
theorem Step.add{S:Jg->Prop}{h₀:Ji}(st:Step S B h₀ σ h)(o:PO)(f:h₀.get? a=Jb)(M:B a=Jb):Step S B h₀ (σ.set a o) h where
 keep:=λb W e s=>by
  obtain⟨x,i,y,z⟩:=st.keep b W e s;refine⟨?_,i,y,z⟩;rw[PH.set_ne]
  ·exact x
  ·rintro rfl;exact ns<|f.symm.trans e
 grow:=λb W e=>by
  obtain⟨i,g⟩:=st.grow b W e;by_cases q:b=a
  ·subst q;exact⟨o,PH.set_same _ _ _⟩
  ·exact⟨i,by rw[PH.set_ne _ _ q];exact g⟩
 fix:=λb o e q=>by
  rw[PH.set_ne]
  ·exact st.fix b o e q
  ·rintro rfl;exact ns<|M.symm.trans e
 live:=st.live
theorem Sim.upd{S:Jg->Prop}(m:Sim C σ h){o o':PO}(T:σ a=Ja o)(U:o.fixed=Jd)(f:KP a h h')(e:h'.get? a=Ja l)(r:OR C σ h o' l)(n:o'.needs C.ok a:=by trivial):
  Sim C (σ.set a o') h'/\Step S σ h (σ.set a o') h':=by
 have t:Step S σ h (σ.set a o') h':=⟨λb W q s=>by
   have R:b≠a:=by rintro rfl;exact sn<|T.symm.trans s
   exact⟨by rw[PH.set_ne _ _ R];exact s,W,(f.2 b R).trans q,λo0=> .refl W⟩,
  λb W q=>by
   by_cases R:b=a
   ·subst R;exact⟨o',PH.set_same _ _ _⟩
   ·exact⟨W,by rw[PH.set_ne _ _ R];exact q⟩,
  λb W q w=>by
   have R:b≠a:=by rintro rfl;obtain rfl:=sj<|T.symm.trans q;exact ft<|U.symm.trans w
   rw[PH.set_ne _ _ R];exact q,
  λb q=>by
   by_cases R:b=a
   ·subst R;exact sn<|e.symm.trans q
   ·rw[<-f.2 b R];exact q⟩
 refine⟨⟨λb W q=> ?_,λx W q=> ?_,λx W q=> ?_,λx W q=> ?_⟩,t⟩
 ·have R:b≠a:=by rintro rfl;have:=m.new _ _ T;exact sn (q.symm.trans this)
  exact(f.2 b R).trans (m.base b W q)
 ·by_cases hx:x=a
  ·subst hx;exact m.new _ _ T
  ·rw[PH.set_ne _ _ hx] at q;exact m.new x W q
 ·by_cases hx:x=a
  ·subst hx;rw[PH.set_same] at q;obtain rfl:=sj q;exact⟨l,e,r.step t⟩
  ·rw[PH.set_ne _ _ hx] at q;obtain⟨P,N,p⟩:=m.objs x W q;exact⟨P,(f.2 x hx).trans N,p.step t⟩
 ·by_cases hx:x=a
  ·subst hx;rw[PH.set_same] at q;obtain rfl:=sj q;exact n
  ·rw[PH.set_ne _ _ hx] at q;exact m.rich x W q
end
section
variable{C:Cx}{A:Jj}{Er:Jf->Je->Prop}{σ:PH}{s:Je}
theorem VP.alloc{S:Jg->Prop}{o:PO}{W:Jp}{s':Je}(m:Sim C σ s.heap)(U:s'.heap=s.heap.push W)(r:Rest s s')(f:W.isFreed=Jd)(n:OR C σ s.heap o W)(q:wnew o σ Q)(d:o.needs C.ok s.heap.objs.size:=by trivial):
  VP C S σ s Q (.ref s.heap.objs.size) s':=by
 have t:Step S σ s.heap (σ.set s.heap.objs.size o) (s.heap.push W):=(Step.push S σ s.heap W).add o (by
  induction e:s.heap.get? s.heap.objs.size with
  |none=>rfl
  |some x=>exact absurd (QJ e) (KH _)) (m.fresh (QA _))
 refine⟨.ref s.heap.objs.size,σ.set s.heap.objs.size o,rfl,?_,?_,r,q _<|m.fresh (QA _)⟩
 ·rw[U];exact m.add t (λx i e=>by obtain⟨P,N,o0⟩:=m.objs x i e;exact(Qw _ N).trans N.symm) (λb o e=>Qw _<|m.base b o e) (QN _ f) (m.freshB<|QA _) (n.step t) d
 ·rw[U];exact t
theorem VP.allocTup{S:Jg->Prop}{vs:Array Jf}{s':Je}(m:Sim C σ s.heap)(U:s'.heap=s.heap.push (tupO vs n))(r:Rest s s')(T:VRs C σ s.heap l vs.toList)(q:Q (.tup l) σ):
  VP C S σ s Q (.ref s.heap.objs.size) s':=by
 have N:=m.push<|tupO vs n;have t:=Step.push S σ s.heap<|tupO vs n;refine⟨.tup l,σ,?_,by rw[U];exact N,by rw[U];exact t,r,q⟩;rw[U];exact⟨_,n,vs,rfl,m.fresh<|QA _,QN _ rfl,T.step t⟩
theorem VRs.append:∀ {l m:List PV} {vs ws:List Jf},VRs C σ h l vs->VRs C σ h m ws->VRs C σ h (l++m) (vs++ws)
 |[],m,vs,ws,a,b=>by change _=_ at a;subst a;exact b
 |p::l,m,vs,ws,a,b=>by
  obtain⟨v,r,rfl,N,Y⟩:=a;exact⟨v,r++ws,rfl,N,VRs.append Y b⟩
theorem VRs.length:∀ {l:List PV} {vs:List Jf},VRs C σ h l vs->vs.length=l.length
 |[]=>λa=>by change _=_ at a;subst a;rfl
 |p::l=>λa=>by
  obtain⟨v,r,rfl,N,Y⟩:=a;simp[VRs.length Y]
theorem VRs.get:∀ {l:List PV} {vs:List Jf},VRs C σ h l vs->∀ (i:Nat) (p:PV),l[i]? =Ja p->∃v,vs[i]? =Ja v/\VR C σ h p v
 |[]=>λa i p e=>by simp at e
 |q::l=>λa i p e=>by
  obtain⟨v,r,rfl,N,Y⟩:=a
  induction i using Nat.casesOn with
  |zero=>simp at e;subst e;exact⟨v,rfl,N⟩
  |succ j=>simp at e;simpa using VRs.get Y j p e
theorem VRs.of_get:∀ {l:List PV} {vs:List Jf},vs.length=l.length->(∀ (i:Nat) (p:PV) (v:Jf),l[i]? =Ja p->vs[i]? =Ja v->VR C σ h p v)->VRs C σ h l vs
 |[],vs=>λa e=>WZ.mp a
 |q::l,[]=>λa e=>by simp at a
 |q::l,v::r=>λa e=>by
  refine⟨v,r,rfl,e 0 q v rfl rfl,VRs.of_get (by simpa using a) λi p w N Y=>e (i+1) p w (by simpa using N)<|by simpa using Y⟩
theorem VRs.set{l:List PV}{vs:List Jf}(x:VRs C σ h l vs)(i:Nat)(r:VR C σ h p v):VRs C σ h (l.set i p) (vs.set i v):=by
 have T:=x.length;refine VRs.of_get (by simp[T]) λj q w N Y=> ?_;rw[KS] at N Y;by_cases D:i=j
 ·subst D;rw[Y8 rfl] at N Y
  split at N<;>split at Y<;>simp_all
 ·rw[Y7 D] at N Y;obtain⟨m,L,e⟩:=x.get j q N;obtain rfl:=sj<|Y.symm.trans L;exact e
theorem VRs.take{l:List PV}{vs:List Jf}(x:VRs C σ h l vs)(i:Nat):VRs C σ h (l.take i) (vs.take i):=by
 have T:=x.length;refine VRs.of_get (by simp[T]) λj q w N p=> ?_;rw[List.getElem?_take] at N p
 split at N
 ·rw[Y8 (by assumption)] at p;obtain⟨m,L,e⟩:=x.get j q N;obtain rfl:=sj<|p.symm.trans L;exact e
 ·exact ns N
theorem VRs.drop{l:List PV}{vs:List Jf}(x:VRs C σ h l vs)(i:Nat):VRs C σ h (l.drop i) (vs.drop i):=by
 have T:=x.length;refine VRs.of_get (by simp[T]) λj q w N p=> ?_;rw[List.getElem?_drop] at N p;obtain⟨m,L,e⟩:=x.get _ q N;obtain rfl:=sj<|p.symm.trans L;exact e
end
section
variable{C:Cx}{A:Jj}{Er:Jf->Je->Prop}{σ:PH}{s:Je}{Q:Post}{n:Nat}{fr:List Js}
theorem d5(t:Tok):VR C σ h (.int i) (.int i t):=⟨t,rfl⟩
theorem fk:VR C σ h (.bool b) (.bool b):=rfl
theorem mq:VR C σ h .none .none:=rfl
inductive LstAt(C:Cx)(σ:PH)(h:Ji)(a:Jg)(l:List PV):Prop
 |mk (vs:Array Jf) (n:Nat) (e:h.get? a=Ja (lstO vs n)) (r:VRs C σ h l vs.toList):LstAt C σ h a l
theorem Sim.list(m:Sim C σ h)(e:σ a=Ja (.list l)):LstAt C σ h a l:=by
 obtain⟨o,N,v,n,rfl,p⟩:=m.objs a _ e;exact⟨v,n,N,p⟩
theorem iK{z:Int}(hz:z.natAbs<2^64):Builtin.Int.intBits z<=64:=by
 unfold Builtin.Int.intBits
 split
 ·exact QV _
 ·rename_i h
  have:z.natAbs≠0:=by simpa using h
  exact(Nat.log2_lt this).mpr hz
theorem pf{vs:Array Jf}(h:vs.toList.length=n):vs.size=n:=h
theorem ww(m:Sim C σ s.heap)(e:σ x=Ja (.list l))(e2:σ y=Ja (.list k))(w:wlist (l++k) σ Q):Jh (Mo C) A (binaryOp .Add (.ref x) (.ref y)) (VP C none1 σ s Q) Er s:=by
 obtain⟨v,X,N,f⟩:=m.list e;obtain⟨g,z,Y,r⟩:=m.list e2;have p:=pf f.length;have K:=pf r.length;have h:l.length+k.length<=1000000:=by rw[<-QG];exact w.1
 exact P.add_list N Y (VP.alloc (o:= .list (l++k)) m rfl ⟨rfl,rfl⟩ rfl ⟨_,_,rfl,by rw[Array.toList_append];exact f.append r⟩ w.2)<|by rw[p,K];exact Qv h<|by decide
theorem Aj(d:mOp p o=Jc)(m:Sim C σ s.heap)(r:VR C σ s.heap a v)(D:VR C σ s.heap b q)(w:wbin p a b σ Q):
  Jh (Mo C) A (binaryOp o v q) (VP C none1 σ s Q) Er s:=by
 cases (Y6 d);have two:∀ {K:Int->Int->Prop} {o:Operator},onInt (λx=>onInt (λy=>K x y) b) a->(∀x y t u,K x y->Jh (Mo C) A (binaryOp o (.int x t)<|.int y u) (VP C none1 σ s Q) Er s)->Jh (Mo C) A (binaryOp o v q) (VP C none1 σ s Q) Er s:=λw k=>by
  obtain⟨x,e,w⟩:=d9 w;obtain⟨y,g,w⟩:=d9 w;subst e g;obtain⟨t,rfl⟩:=r;obtain⟨u,rfl⟩:=D;exact k x y t u w
 induction p with
 |add=>
  induction a using PV.casesOn with
  |int x=>
   obtain⟨y,rfl,w⟩:=d9 w;obtain⟨t,rfl⟩:=r;obtain⟨u,rfl⟩:=D;exact P.add_int<|VP.here m rfl ⟨rfl,rfl⟩ (d5 _) w
  |ref x=>
   obtain⟨o0,l,e,T,w⟩:=fY (show onL σ (λl=>onL σ (λm=>wlist (l++m) σ Q) b) (.ref x) from w);cases e;obtain⟨y,k,rfl,F,j⟩:=fY w;rw[show v= .ref x from r,show q= .ref y from D];exact ww m T F j
  |_=>exact w.elim
 |mul=>exact two w λx y t u w=>P.mul_int (VP.here m rfl ⟨rfl,rfl⟩ (d5 _) w.2) (w.1.elim (λh=>IntMulOk.of_left (iK h)) λh=>IntMulOk.of_right (iK h))
 |sub=>exact two w λx y t u w=>P.sub_int<|VP.here m rfl ⟨rfl,rfl⟩ (d5 _) w
 |fdiv=>exact two w λx y t u w=>PyProof.Rows.floordiv_int w.1 (VP.here m rfl ⟨rfl,rfl⟩ (d5 _) w.2.2)<|.inl (PyProof.noPylong_small w.2.1)
 |mod=>exact two w λx y t u w=>PyProof.Rows.mod_int' w.1<|VP.here m rfl ⟨rfl,rfl⟩ (d5 _) w.2
 |pow=>exact two w λx y t u w=>PyProof.Rows.pow_int_small w.1 (by have:=w.2.1;exact QP w.2.1 (by decide)) w.2.2.1 (VP.here m rfl ⟨rfl,rfl⟩ (d5 _) w.2.2.2)
end
section
open PyProof.Rows
section
variable{C:Cx}{A:Jj}{Er:Jf->Je->Prop}{σ:PH}{s:Je}{h:Ji}
abbrev XS:=List<|List KA×Jg×Jf
structure DAt(C:Cx)(σ:PH)(h:Ji)(a:Jg)(ks:List (List KA))(l:List PV)(xs:XS):Prop where
 of:h.DictOfH (tk C.prog C.w) a xs
 ks:xs.map (·.1)=ks
 ka:∀y∈xs,KeyAt C σ h y.1 y.2.1
 v:VRs C σ h l (xs.map (·.2.2))
 sys:(a==JD)=Jd
theorem KeyAt.is(x:KeyAt C σ h k a):(tk C.prog C.w).is h k a:=by obtain⟨o0,v,m,g,i⟩:=x;exact⟨_,v,m,g,rfl,rfl,i⟩
theorem Sim.dict(m:Sim C σ h)(e:σ a=Ja (.dict ks l)):∃xs,DAt C σ h a ks l xs:=by
 obtain⟨o,g,U,p,xs,x,d,T,k,nd,E,v⟩:=m.objs a _ e;exact⟨xs,⟨o,U,p,g,x,d,T,λy W=>(E y W).is,k▸nd⟩,k,E,v,beq_eq_false_iff_ne.mpr<|m.rich a _ e⟩
theorem DAt.or{a:Jg}{ks:List (List KA)}{l:List PV}{xs:XS}{b:Jp}(x:h.DictOfH (tk C.prog C.w) a xs)(g:h.get? a=Ja b)(k:xs.map (·.1)=ks)(E:∀y∈xs,KeyAt C σ h y.1 y.2.1)(v:VRs C σ h l (xs.map (·.2.2))):OR C σ h (.dict ks l) b:=by
 obtain⟨o,U,p,e,M,W,J,o0,nd⟩:=x;obtain rfl:=sj<|g.symm.trans e;exact⟨U,p,xs,M,W,J,k,k▸nd,E,v⟩
theorem oC:∀ {l:List PV} {vs:List Jf} {k:List KA},kasOf l=Ja k->VRs C σ h l vs->ItemsAre (mk C.prog C.w) k vs
 |[],vs,k,e,r=>by change _=_ at r;subst r;obtain rfl:=sj e;exact .nil
 |p::l,vs,k,e,r=>by
  obtain⟨v,U,rfl,f,M⟩:=r;obtain⟨a,T,e⟩:=Qr.mp (show((kaOf p).bind λk=>(kasOf l).map (k:: ·))=Ja k from e);obtain⟨r,w,e⟩:=Qs.mp e;subst e;refine .cons ?_<|oC w M
  induction p using PV.casesOn with
  |int i=>obtain rfl:=sj T;obtain⟨t,rfl⟩:=f;exact uC i t
  |str i=>obtain rfl:=sj T;obtain⟨t,rfl⟩:=f;exact sQ i t
  |_=>first|exact onx T|cases T
theorem kS(e:keyOf p=Ja k)(r:VR C σ h p v):∃b,v= .ref b/\KeyAt C σ h k b:=by
 induction p using PV.casesOn with
 |tup l=>
  obtain⟨a,n,J,T,w,X,u⟩:=r;exact⟨a,T,w,J,n,X,oC e u⟩
 |_=>first|exact onx e|cases e
theorem j8:∀ {xs:XS},YV xs k=(kidx (xs.map (·.1)) k).bind λj=>xs[j]?.map (·.2)
 |[]=>rfl
 |x::xs=>by
  have i:=j8 (k:=k) (xs:=xs);show((x::xs).find? λy=>decide<|y.1=k).map (·.2)=(if x.1=k then Ja 0 else(kidx (xs.map (·.1)) k).map (· +1)).bind λj=>(x::xs)[j]?.map (·.2);by_cases q:x.1=k
  ·rw[Y8 q,List.find?_cons,Y4 q];rfl
  ·rw[Y7 q,List.find?_cons,Y5 q];show YV xs k=_;rw[i];cases kidx (xs.map (·.1)) k<;>rfl
theorem mf:∀ {ks:List (List KA)} {j:Nat},kidx ks k=Ja j->j<ks.length/\ks[j]? =Ja k
 |[],j,e=>by exact ns e
 |x::ks,j,e=>by
  replace e:(if x=k then Ja 0 else(kidx ks k).map (· +1))=Ja j:=e;by_cases q:x=k
  ·obtain rfl:=sj<|(Y8 q).symm.trans e;exact⟨Nat.succ_pos _,by rw[q];rfl⟩
  ·rw[Y7 q] at e;obtain⟨i,T,rfl⟩:=Qs.mp e;obtain⟨N,p⟩:=mf T;exact⟨Yn N,p⟩
theorem DAt.look{a:Jg}{ks:List (List KA)}{l:List PV}{xs:XS}(d:DAt C σ h a ks l xs){k:List KA}:
  (klook ks l k=Jb/\YV xs k=Jb)\/X2 λp q=>A3 (klook ks l k=Ja p) (YV xs k=Ja q) (VR C σ h p q.2):=by
 rw[j8,d.ks];unfold klook
 induction e:kidx ks k with
 |none=>exact .inl ⟨rfl,rfl⟩
 |some j=>
  have H:=(mf e).1;have T:=d.v.length;rw[Qd] at T;have M:xs.length=ks.length:=by rw[<-d.ks,Qd]
  have N:j<xs.length:=by exact zq H M.symm
  have Y:j<l.length:=by exact zq H<|M.symm.trans T
  obtain⟨v,L,w⟩:=d.v.get j l[j] (Qg Y);refine .inr ⟨l[j],xs[j].2,Qg Y,by show xs[j]?.map (·.2)=_;rw[Qg N];rfl,?_⟩;rw[Qu,Qg N] at L;obtain rfl:=sj L;exact w
theorem DAt.some_{a:Jg}{ks:List (List KA)}{l:List PV}{xs:XS}(d:DAt C σ h a ks l xs){k:List KA}:(kidx ks k).isSome=(YV xs k).isSome:=by
 rw[j8,d.ks]
 induction e:kidx ks k with
 |none=>rfl
 |some j=>
  have H:=(mf e).1;have q:xs.length=ks.length:=by rw[<-d.ks,Qd]
  show Jc=(xs[j]?.map (·.2)).isSome;rw[Qg (by exact zq H q.symm)];rfl
theorem iH(u:A.units+100<cLine):(tk C.prog C.w).room A.in1:=by show A.units+1<cLine;exact zl (KI (by decide) _) u
theorem qM(k:List KA)(v:Jf):∀ {xs:XS} {j:Nat},kidx (xs.map (·.1)) k=Ja j->(xs.map (·.1)).Nodup->(xs.map (putAt k v)).map (·.2.2)=(xs.map (·.2.2)).set j v
 |[],j,e,_=>by exact ns e
 |x::xs,j,e,nd=>by
  replace e:(if x.1=k then Ja 0 else(kidx (xs.map (·.1)) k).map (· +1))=Ja j:=e;rw[Qq,Qy] at nd;by_cases q:x.1=k
  ·obtain rfl:=sj<|(Y8 q).symm.trans e;rw[Qq,map_putAt_of_not_mem xs k v (q▸nd.1)];show(putAt k v x).2.2::_=v::_;rw[putAt,Y8 q]
  ·rw[Y7 q] at e;obtain⟨i,T,rfl⟩:=Qs.mp e;rw[Qq];show(putAt k v x).2.2::(xs.map<|putAt k v).map (·.2.2)=x.2.2::(xs.map (·.2.2)).set i v;rw[qM k v T nd.2,putAt,Y7 q]
theorem DAt.dict_data{a:Jg}{ks:List (List KA)}{l:List PV}{xs:XS}(d:DAt C σ h a ks l xs):X3 λo es ep=>h.get? a=Ja o/\o.data= .dict es ep:=by obtain⟨o,es,ep,g,o0,q,o0⟩:=d.of;exact⟨o,es,ep,g,q⟩
theorem DAt.set{a b:Jg}{ks:List (List KA)}{l:List PV}{xs:XS}{k:List KA}{p:PV}{v:Jf}{S:Ji}(m:Sim C σ h)(e:σ a=Ja (.dict ks l))(d:DAt C σ h a ks l xs)(Y:KeyAt C σ h k b)(hv:VR C σ h p v)
  (G:S.DictOfH (tk C.prog C.w) a (storedH xs k b v))(H:KP a h S):Sim C (σ.set a<|kset ks l k p) S/\Step none1 σ h (σ.set a<|kset ks l k p) S:=by
 obtain⟨o,R,I,V,t⟩:=d.dict_data;obtain⟨i,g,c,J,M,E,x,o0,n⟩:=G;have F:(xs.map (·.1)).Nodup:=by obtain⟨o0,o0,o0,o0,o0,o0,o0,o0,q⟩:=d.of;exact q
 have r:OR C σ h (kset ks l k p) i:=by
  unfold kset
  induction q:kidx ks k with
  |none=>
   have U:YV xs k=Jb:=by rw[j8,d.ks,q];rfl
   rw[storedH_new U] at x n;refine⟨g,c,_,M,E,x,by rw[QD,d.ks];rfl,by rw[QD,d.ks] at n;exact n,λy W=> ?_,?_⟩
   ·rcases Qn.mp W with W|W
    ·exact d.ka y W
    ·cases Qk.mp W;exact Y
   ·rw[QD];exact d.v.append ⟨v,[],rfl,hv,rfl⟩
  |some j=>
   have N:(YV xs k).isSome=Jc:=by rw[<-d.some_,q];rfl
   obtain⟨K,Z⟩:=Option.isSome_iff_exists.mp N;rw[storedH_old Z] at x n;refine⟨g,c,_,M,E,x,by rw[keys_map_putAt,d.ks],d.ks▸F,λy W=> ?_,?_⟩
   ·obtain⟨z,T,rfl⟩:=Ql.mp W;have:=d.ka z T;unfold putAt;by_cases w:z.1=k
    ·rw[Y8 w];exact this
    ·rw[Y7 w];exact this
   ·rw[qM k v (d.ks▸q) F];exact d.v.set j hv
 have u:(kset ks l k p).needs C.ok a:=by
  have:a≠JD:=m.rich a _ e;unfold kset;cases kidx ks k<;>exact this
 exact Sim.upd m e rfl H J r u
end
end
section
open PyProof.Rows
section
variable{C:Cx}{A:Jj}{Er:Jf->Je->Prop}{σ:PH}{s:Je}{Q:Post}{n:Nat}{fr:List Js}
mutual
theorem Rd.reads(m:Sim C σ h):∀ (d:YO) (p:PV) (v:Jf),d.canLay0=Jc->Rd σ d p->VR C σ h p v->∃as,Reads h v d as
 | .none=>λp v o0 r x=>by change _=_ at r;subst r;change _=_ at x;subst x;exact⟨_,.none⟩
 | .bool b=>λp v o0 r x=>by change _=_ at r;subst r;change _=_ at x;subst x;exact⟨_,.bool b⟩
 | .int i=>λp v o0 r x=>by change _=_ at r;subst r;obtain⟨t,rfl⟩:=x;exact⟨_,.int i t⟩
 | .str y=>λp v o0 r x=>by obtain⟨z,rfl,rfl⟩:=r;obtain⟨t,rfl⟩:=x;exact⟨_,.str _ t⟩
 | .tuple ds=>λp v c r x=>by
  obtain⟨l,rfl,r⟩:=r;obtain⟨a,n,vs,rfl,O,N,Y⟩:=x;obtain⟨as,Z⟩:=Rds.reads m ds l vs.toList (by simpa [PyData.canLay0] using c) r Y;exact⟨_,.tuple N rfl rfl Z⟩
 | .list ds=>λp v c r x=>by
  obtain⟨a,l,rfl,e,r⟩:=r;change _=_ at x;subst x;obtain⟨vs,n,N,Y⟩:=m.list e;obtain⟨as,Z⟩:=Rds.reads m ds l vs.toList (by simpa [PyData.canLay0] using c) r Y;exact⟨_,.list N rfl rfl Z⟩
 | .dict ds=>λp v c r x=>r.elim
theorem Rds.reads(m:Sim C σ h):∀ (ds:List YO) (l:List PV) (vs:List Jf),PyData.canLayAll0 ds=Jc->Rds σ ds l->VRs C σ h l vs->∃as,ReadsAll h vs ds as
 |[]=>λl vs o0 r x=>by change _=_ at r;subst r;change _=_ at x;subst x;exact⟨_,.nil⟩
 |d::ds=>λl vs c r x=>by
  obtain⟨p,ps,rfl,f,M⟩:=r;obtain⟨v,U,rfl,R,W⟩:=x;have K:d.canLay0=Jc/\PyData.canLayAll0 ds=Jc:=by simpa [PyData.canLayAll0] using c
  obtain⟨as,Z⟩:=Rd.reads m d p v K.1 f R;obtain⟨bs,D⟩:=Rds.reads m ds ps U K.2 M W;exact⟨_,.cons Z D⟩
end
theorem gW:∀ {ds:List YO},(∀d∈ds,d.canLay0=Jc)->PyData.canLayAll0 ds=Jc
 |[]=>λo0=>rfl
 |d::ds=>λh=>by simp only[PyData.canLayAll0,h d (.head _),gW λx hx=>h x (.tail _ hx),Bool.and_self]
theorem jQ:∀ {ds:List YO},(∀d∈ds,d.depth<=n)->PyData.depthAll ds<=n
 |[]=>λo0=>by simp[PyData.depthAll]
 |d::ds=>λh=>by
  exact Nat.max_le.mpr ⟨h d<|.head _,jQ λx hx=>h x<|.tail _ hx⟩
theorem VP.bool{S:Jg->Prop}{K:Bool->PH->Prop}(m:Sim C σ s.heap)(q:K b σ):VP C S σ s (λv σ'=>∃b,v= .bool b/\K b σ') (.bool b) s:=
 VP.here m rfl (Rest.refl s) fk ⟨b,rfl,q⟩
theorem sy{K:Bool->PH->Prop}{f:Bool->Bool}(m:Sim C σ s.heap)(Z:VR C σ s.heap a M)(r:VR C σ s.heap b q)(w:onD σ (λks o0=>oK (λk=>K (f (kidx ks k).isSome) σ) (keyOf a)) b)
  (k:∀E d xs i,(tk C.prog C.w).is s.heap i E->(d==JD)=Jd->s.heap.DictOfH (tk C.prog C.w) d xs->(∀tk,VP C none1 σ s (λv σ'=>∃b,v= .bool b/\K b σ') (.bool (f (YV xs i).isSome)) {s with toks:=tk})->
   Jh (Mo C) A (YS o (.ref E) (.ref d)) (VP C none1 σ s λv σ'=>∃b,v= .bool b/\K b σ') Er s):Jh (Mo C) A (YS o M q) (VP C none1 σ s λv σ'=>∃b,v= .bool b/\K b σ') Er s:=by
 obtain⟨d,ks,l,rfl,e,j⟩:=ip w;obtain⟨i,x,B⟩:=i4 j;obtain⟨xs,D⟩:=m.dict e;obtain⟨P,rfl,h⟩:=kS x Z;change _=_ at r;subst r;refine k P d xs i h.is D.sys D.of λtk=> ?_;exact VP.here (s:=s) m rfl ⟨rfl,rfl⟩ fk ⟨_,rfl,by rw[<-D.some_];exact B⟩
theorem yD(ho:mC op o=Jc){K:Bool->PH->Prop}(m:Sim C σ s.heap)(hu:A.units+100<cLine)(ra:VR C σ s.heap a va)(rb:VR C σ s.heap b vb)(w:wcmp op a b σ K):
  Jh (Mo C) A (YS o va vb) (VP C none1 σ s λv σ'=>∃b,v= .bool b/\K b σ') Er s:=by
 cases (Y6 ho);have two:∀ {f:Int->Int->Bool} {o:CmpOp},wrel f a b σ K->(∀x y t u,K (f x y) σ->Jh (Mo C) A (YS o (.int x t)<|.int y u) (VP C none1 σ s λv σ'=>∃b,v= .bool b/\K b σ') Er s)->Jh (Mo C) A (YS o va vb) (VP C none1 σ s λv σ'=>∃b,v= .bool b/\K b σ') Er s:=λw k=>by
  obtain⟨x,e,w⟩:=d9 w;obtain⟨y,e',w⟩:=d9 w;subst e e';obtain⟨t,rfl⟩:=ra;obtain⟨u,rfl⟩:=rb;exact k x y t u w
 have inn:∀ {K':Bool->PH->Prop},onL σ (λl=>X2 λc ds=>A5 (Rd σ c a) (Rds σ ds l) (okD c) ((∀d∈ds,okD d))<|K' (ds.any λd=>PyData.eqv d c) σ) b->X4 λc ds as bs=>A6 (Reads s.heap vb (.list ds) bs) (Reads s.heap va c as) (PyData.canLayAll0 ds=Jc) (c.canLay0=Jc) ((A.units+min (PyData.depthAll ds) c.depth+2<cLine)) (K' (ds.any λd=>PyData.eqv d c) σ):=λw=>by
  obtain⟨r,l,rfl,e,c,ds,r1,r2,k1,k2,w⟩:=fY w;obtain⟨as,q1⟩:=Rd.reads m c a va k1.1 r1 ra;obtain⟨bs,q2⟩:=Rd.reads m (.list ds) (.ref r) vb (gW λd hd=>(k2 d hd).1) ⟨r,l,rfl,e,r2⟩ rb;have h1:=jQ λd hd=>(k2 d hd).2;exact⟨c,ds,as,bs,q2,q1,gW λd hd=>(k2 d hd).1,k1.1,by exact zmn2 hu h1,w⟩
 induction op with
 |eq=>
  obtain⟨c,d,r1,r2,k1,k2,w⟩:=w;obtain⟨as,q1⟩:=Rd.reads m c a va k1.1 r1 ra;obtain⟨bs,q2⟩:=Rd.reads m d b vb k2.1 r2 rb;have:=k1.2;exact SeqAt.compareEq_reads q1 q2 k1.1 k2.1 (by exact zmn hu this)<|VP.bool m w
 |ne=>
  obtain⟨c,d,r1,r2,k1,k2,w⟩:=w;obtain⟨as,q1⟩:=Rd.reads m c a va k1.1 r1 ra;obtain⟨bs,q2⟩:=Rd.reads m d b vb k2.1 r2 rb;exact SeqAt.compareNe_shaped q1 q2 (Qh.mpr ⟨k1.1,Y4<|zb2 k1.2 rfl⟩) (Qh.mpr ⟨k2.1,Y4<|zb2 k2.2 rfl⟩) (by exact zl (KI (by decide) _) hu)<|VP.bool m w
 |lt=>exact two w λx y t u w=>P.lt_int<|VP.bool m w
 |le=>exact two w λx y t u w=>P.le_int<|VP.bool m w
 |gt=>exact two w λx y t u w=>P.gt_int<|VP.bool m w
 |ge=>exact two w λx y t u w=>P.ge_int<|VP.bool m w
 |in_=>
  rcases w with w|w
  ·exact sy (f:=id) m ra rb w λka d xs kk h1 h2 h3 h4=>wpAny_in_heap (iH hu) h1 h2 h3<|h4 _
  obtain⟨c,ds,as,bs,q2,q1,h1,h2,h3,w⟩:=inn w;exact SeqAt.in_list_reads q2 q1 h1 h2 (by exact zr4 h3)<|VP.bool m w
 |nin=>
  rcases (show onD σ (λks o0=>oK (λk=>K (!(kidx ks k).isSome) σ)<|keyOf a) b\/_ from w) with w|w
  ·exact sy (f:=not) m ra rb w λka d xs kk h1 h2 h3 h4=>wpAny_notIn_heap (iH hu) h1 h2 h3<|h4 _
  obtain⟨c,ds,as,bs,q2,q1,h1,h2,h3,w⟩:=inn (K':=λr σ=>K (!r) σ) w;exact SeqAt.notIn_list_reads q2 q1 h1 h2 (by exact zr4 h3)<|VP.bool m w
end
end
section
open PyProof.Rows
section
variable{C:Cx}{A:Jj}{Er:Jf->Je->Prop}{σ:PH}{s:Je}{Q:Post}{n:Nat}{fr:List Js}
theorem VP.kept{S:Jg->Prop}{s':Je}(m:Sim C σ s.heap)(k:∀b o,s.heap.get? b=Ja o->s'.heap.get? b=Ja o)(r:Rest s s')(hv:VR C σ s.heap p v)(q:Q p σ):VP C S σ s Q v s':=
 ⟨p,σ,hv.step<|Step.more (S:=none1) k,m.more k,.more k,r,q⟩
theorem VP.keptNew{S:Jg->Prop}{o:PO}{s':Je}(m:Sim C σ s.heap)(k:∀b o,s.heap.get? b=Ja o->s'.heap.get? b=Ja o)(r:Rest s s')(g:s.heap.get? a=Jb)
  (e:s'.heap.get? a=Ja W)(T:∀σ',Step S σ s.heap σ' s'.heap->OR C σ' s'.heap o W)(q:wnew o σ Q)(d:o.needs C.ok a):VP C S σ s Q (.ref a) s':=by
 have E:σ a=Jb:=by
  induction h:σ a with
  |none=>rfl
  |some p=>obtain⟨W,N,o0⟩:=m.objs a p h;exact ns<|g.symm.trans N
 have R:C.B.get? a=Jb:=by
  induction h:C.B.get? a with
  |none=>rfl
  |some p=>have:=m.base a p h;exact ns<|g.symm.trans this
 have t:Step S σ s.heap (σ.set a o) s'.heap:=(Step.more k).add o g E;exact⟨.ref a,σ.set a o,rfl,m.add t (λx i e=>by obtain⟨P,N,o0⟩:=m.objs x i e;exact(k _ _ N).trans N.symm) (λb o e=>k b o<|m.base b o e) e R (T _ t) d,t,r,q a E⟩
theorem kc(h:Ji):h.get? h.objs.size=Jb:=by
 induction e:h.get? h.objs.size with
 |none=>rfl
 |some x=>exact absurd (QJ e)<|KH _
theorem VRs.ints:∀ {l:List PV} {is:List Int} {vs:List Jf},dZ l=Ja is->VRs C σ h l vs->∀ (i:Nat) (v:Jf),vs[i]? =Ja v->∃t,v= .int (is.getD i 0) t
 |[]=>λe r i v hv=>by change _=_ at r;subst r;simp at hv
 | .int k::l=>λe r i v hv=>by
  replace e:=Qs.mp e;obtain⟨j,T,rfl⟩:=e;obtain⟨w,ws,rfl,f,M⟩:=r
  induction i using Nat.casesOn with
  |zero=>simp at hv;subst hv;exact f
  |succ i=>simp at hv;simpa using VRs.ints T M i v hv
 | .none::l=>λe r i v hv=>onx e
 | .bool b::l=>λe r i v hv=>onx e
 | .str b::l=>λe r i v hv=>onx e
 | .tup b::l=>λe r i v hv=>onx e
 | .ref b::l=>λe r i v hv=>onx e
 | .scr b::l=>λe r i v hv=>onx e
theorem eA:∀ {l:List PV} {is:List Int},dZ l=Ja is->is.length=l.length
 |[]=>λe=>by obtain rfl:=sj e;rfl
 | .int k::l=>λe=>by
  replace e:=Qs.mp e;obtain⟨j,T,rfl⟩:=e;simp[eA T]
 | .none::l=>λe=>onx e
 | .bool b::l=>λe=>onx e
 | .str b::l=>λe=>onx e
 | .tup b::l=>λe=>onx e
 | .ref b::l=>λe=>onx e
 | .scr b::l=>λe=>onx e
theorem VRs.bools:∀ {l:List PV} {is:List Bool} {vs:List Jf},em l=Ja is->VRs C σ h l vs->is.length=l.length/\∀ (i:Nat) (v:Jf),vs[i]? =Ja v->v= .bool (is.getD i Jd)
 |[]=>λe r=>by obtain rfl:=sj e;change _=_ at r;subst r;simp
 | .bool k::l=>λe r=>by
  replace e:=Qs.mp e;obtain⟨j,T,rfl⟩:=e;obtain⟨w,ws,rfl,f,M⟩:=r;obtain⟨P,U⟩:=VRs.bools T M;refine⟨by simp[P],λi v hv=> ?_⟩
  induction i using Nat.casesOn with
  |zero=>simp at hv;subst hv;exact f
  |succ i=>simp at hv;simpa using U i v hv
 | .none::l=>λe r=>onx e
 | .int b::l=>λe r=>onx e
 | .str b::l=>λe r=>onx e
 | .tup b::l=>λe r=>onx e
 | .ref b::l=>λe r=>onx e
 | .scr b::l=>λe r=>onx e
theorem jR:∀ (is:List Int) (n:Nat),n<=is.length->preSum (λi=>is.getD i 0) n=(is.take n).sum
 |is,0=>λo0=>by simp[preSum]
 |is,n+1=>λh=>by
  rw[preSum,jR is n<|by exact Kj h,List.take_add_one,WW];have:is[n]? =Ja is[n]:=Qg (by exact h);simp[List.getD,this]
theorem rY(bs:List Bool):((Qc bs.length).all λi=>bs.getD i Jd)=bs.all id:=by
 rw[KM];simp only[Qx,Qi,id]
 constructor
 ·intro h b R;obtain⟨i,t,rfl⟩:=KT R;have:=h i t
  simpa [List.getD,t] using this
 ·intro h i t;have:=h bs[i] (KX t)
  simpa [List.getD,t] using this
theorem iq{R:Jf->Je->Prop}(T:s.heap.get? l=Ja (lstO vs k))
  (h:∀I,I=s.heap.objs.size->l≠I->(s.heap.push {cls:= .type "list_iterator",data:= .fields #[.ref l,.int 0 0]}).IsListIter I l 0->
   (s.heap.push {cls:= .type "list_iterator",data:= .fields #[.ref l,.int 0 0]}).IsList l vs->R (.ref I) {s with heap:=s.heap.push {cls:= .type "list_iterator",data:= .fields #[.ref l,.int 0 0]}}):
  Jh (Mo C) A (YN<|.ref l) R Er s:=
 wpAny_pyIter_list ⟨_,T,rfl,k,rfl⟩ (h _ rfl (KU<|QJ T) ⟨_,QN _ rfl,rfl,rfl⟩ ⟨_,Qw _ T,rfl,k,rfl⟩)
theorem sJ{h:Ji}(p:I=h.objs.size)(N:h.get? a=Ja o)(R:b∈ [I,a]):b<(h.push o').objs.size:=by
 rw[KL]
 rcases Qt.mp R with rfl|R
 ·rw[p];exact QI _
 ·rw[Qk.mp R];exact Ye<|QJ N
theorem ke{h:Ji}(p:I=h.objs.size)(e:h.get? b=Ja o):b∉ [I]:=λq=>by
 rw[Qk.mp q,p,kc] at e;exact ns e
theorem Ak{is:List Int}(U:A.handled=Jb)(m:Sim C σ s.heap)(e:σ a=Ja (.list l))(hi:dZ l=Ja is)(q:Q (.int is.sum) σ):
  Jh (Mo C) A (call (.builtin "sum") [.ref a]) (VP C none1 σ s Q) Er s:=by
 obtain⟨J,k,N,Y⟩:=m.list e;refine call_sum_walkAnyS (iq N λI p h t T=> ?_);have g:J.size=is.length:=by rw[eA hi];simpa using Y.length
 refine⟨I,_,_,_,_,_,_,λi=>is.getD i 0,rfl,(Walks.list (prog:=C.prog) (w:=C.w) (A:=A.in1) U I a h J).toS,⟨t,T⟩,?_,?_,λG y mv=> ?_⟩
 ·exact λb R=>sJ p N R
 ·intro i v hv;exact VRs.ints hi Y i v<|by simpa using hv
 ·rw[g,jR is _<|QA _,List.take_of_length_le (QA _)];refine VP.kept m (λb o Z=>mv.heap b o (ke p Z)<|Qw _ Z) ⟨mv.gens,mv.os⟩ (d5 _) q
theorem sv(bs:List Bool):((Qc bs.length).any λi=>bs.getD i Jd)=bs.any id:=by
 rw[KM];simp only[Ki,Qi,id]
 constructor
 ·rintro ⟨i,t,h⟩;exact⟨bs[i],KX t,by simpa [List.getD,t] using h⟩
 ·rintro ⟨b,R,h⟩;obtain⟨i,t,rfl⟩:=KT R;exact⟨i,t,by simpa [List.getD,t] using h⟩
theorem zi{bs:List Bool}(U:A.handled=Jb)(m:Sim C σ s.heap)(e:σ a=Ja (.list l))(hi:em l=Ja bs)(q:Q (.bool (bs.any id)) σ):
  Jh (Mo C) A (call (.builtin "any") [.ref a]) (VP C none1 σ s Q) Er s:=by
 obtain⟨J,k,N,p⟩:=m.list e;refine call_any_walk (iq N λI H h t T=> ?_);obtain⟨d,V⟩:=VRs.bools hi p;have g:J.size=bs.length:=by rw[d];simpa using p.length
 refine⟨I,_,_,_,_,_,λi=>bs.getD i Jd,rfl,Walks.list (prog:=C.prog) (w:=C.w) (A:=A.in1) U I a h J,⟨t,T⟩,?_,λS tk M=> ?_⟩
 ·intro i v G r E hv X;rw[V i v (by simpa using hv)];exact wpAny_truthy_bool X
 ·rw[g,sv];refine VP.kept m (λb o Z=>M b o (ke H Z)<|Qw _ Z) ⟨rfl,rfl⟩ fk q
theorem y9{bs:List Bool}(U:A.handled=Jb)(m:Sim C σ s.heap)(e:σ a=Ja (.list l))(hi:em l=Ja bs)(q:Q (.bool (bs.all id)) σ):
  Jh (Mo C) A (call (.builtin "all") [.ref a]) (VP C none1 σ s Q) Er s:=by
 obtain⟨J,k,N,p⟩:=m.list e;refine call_all_walk (iq N λI H h t T=> ?_);obtain⟨d,V⟩:=VRs.bools hi p;have g:J.size=bs.length:=by rw[d];simpa using p.length
 refine⟨I,_,_,_,_,_,λi=>bs.getD i Jd,rfl,Walks.list (prog:=C.prog) (w:=C.w) (A:=A.in1) U I a h J,⟨t,T⟩,?_,λS tk M=> ?_⟩
 ·intro i v G r E hv X;rw[V i v (by simpa using hv)];exact wpAny_truthy_bool X
 ·rw[g,rY];refine VP.kept m (λb o Z=>M b o (ke H Z)<|Qw _ Z) ⟨rfl,rfl⟩ fk q
set_option tactic.hygienic true in
theorem Ad(m:Sim C σ s.heap)(r:VR C σ s.heap p v)(e:plen σ p=Ja k)(M:k<=lim)(q:Q (.int k) σ):
  Jh (Mo C) A (call (.builtin "len") [v]) (VP C none1 σ s Q) Er s:=by
 have R:k<=1000000:=M
 induction p using PV.casesOn with
 |ref a=>
  change _=_ at r;subst r;obtain⟨l,T,rfl⟩:=sG (show lenO (σ a)=Ja k from e);obtain⟨w,j,N,Y⟩:=m.list T;have h:w.size=l.length:=by simpa using Y.length
  refine Calls.call_len_list ⟨_,N,rfl,j,rfl⟩ (by rw[h];exact zi3 R) ?_;rw[h];exact VP.here m rfl ⟨rfl,rfl⟩ (d5 _) q
 |tup l=>
  obtain rfl:=sj e;obtain⟨a,j,w,rfl,W,N,Y⟩:=r;have h:w.size=l.length:=by simpa using Y.length
  refine P.len_tuple N (by rw[h];exact Int.not_le.mpr<|zi3 R) ?_;rw[h];exact VP.here m rfl ⟨rfl,rfl⟩ (d5 _) q
 |scr l=>
  obtain rfl:=sj e;obtain⟨a,o,j,w,rfl,N,Y,J,h,o0⟩:=r;refine Calls.call_len_list ⟨_,m.base _ _ N,Y,j,J⟩ (by rw[h];exact zi3 R) ?_;rw[h];exact VP.here m rfl ⟨rfl,rfl⟩ (d5 _) q
 |_=>exact ns e
theorem iE:∀ {is:List Int},is≠ []->lmin is∈is/\∀a∈is,lmin is<=a
 |x::r,_=>by
  have key:∀ (r:List Int) (x:Int),(r.foldl min x=x\/r.foldl min x∈r)/\r.foldl min x<=x/\∀a∈r,r.foldl min x<=a:=by
   intro r
   induction r with
   |nil=>intro x;exact⟨.inl rfl,QZ _,λa T=>(bQ T)⟩
   |cons y r i=>
    intro x;obtain⟨N,p,J⟩:=i<|min x y;refine⟨?_,QP p<|Int.min_le_left _ _,λa T=> ?_⟩
    ·rcases N with N|N
     ·show r.foldl min (min x y)=x\/r.foldl min (min x y)∈y::r;rw[N]
      rcases Int.le_total x y with q|q
      ·exact .inl<|Int.min_eq_left q
      ·rw[Int.min_eq_right q];exact .inr<|.head _
     ·exact .inr<|.tail _ N
    ·cases T with
     |head=>exact QP p<|Int.min_le_right _ _
     |tail _ T=>exact J a T
  obtain⟨N,p,J⟩:=key r x;refine⟨N.elim (λh=>by show r.foldl min x∈x::r;rw[h];exact .head _)<|.tail _,λa T=> ?_⟩;cases T with
  |head=>exact p
  |tail _ T=>exact J a T
theorem xu{is:List Int}(h:M∈is)(p:∀a∈is,M<=a):lmin is=M:=by
 obtain⟨P,k⟩:=iE (is:=is) (λq=>by rw[q] at h;cases h);exact Wz (k M h)<|p _ P
theorem yE{is:List Int}(f:A.handled=Jb)(m:Sim C σ s.heap)(e:σ a=Ja (.list l))(hi:dZ l=Ja is)(U:is≠ [])(q:Q (.int (lmin is)) σ):
  Jh (Mo C) A (call (.builtin "min") [.ref a]) (VP C none1 σ s Q) Er s:=by
 obtain⟨J,k,Y,p⟩:=m.list e;refine call_min_walk (iq Y λI H R L T=> ?_);have g:J.size=is.length:=by rw[eA hi];exact p.length
 have h:0<is.length:=List.length_pos_iff.mpr U;refine⟨I,_,_,_,_,_,_,rfl,Walks.list (prog:=C.prog) (w:=C.w) (A:=A.in1) f I a R J,⟨L,T⟩,?_,g▸h,CmpOf.ints_lt (λi=>is.getD i 0)<|λi v hv=>VRs.ints hi p i v<|by simpa using hv,λv W tk P M=> ?_⟩
 ·exact λb S=>sJ H Y S
 ·obtain⟨t,rfl⟩:=VRs.ints hi p _ v (by simpa using P);obtain⟨d,V⟩:=argBest_lt (λi=>is.getD i 0)<|J.size-1;have N:argBest (λi j=>decide<|is.getD i 0<is.getD j 0) (J.size-1)<is.length:=by exact zl d (zq (Nat.sub_lt (zq h g.symm) Nat.one_pos) g)
  have u:is.getD (argBest (λi j=>decide<|is.getD i 0<is.getD j 0)<|J.size-1) 0∈is:=by
   rw[List.getD_eq_getElem?_getD,Qg N];exact KX N
  rw[xu u λx hx=> ?_] at q
  ·refine VP.kept m (λb o Z=>M b o (ke H Z)<|Qw _ Z) ⟨rfl,rfl⟩ (d5 _) q
  ·obtain⟨j,E,rfl⟩:=KT hx;have:=V j (by exact Nat.le_sub_one_of_lt<|zq E g.symm);rw[List.getD_eq_getElem?_getD (i:=j),Qg E] at this;exact this
theorem qi{vs:Array Jf}(Y:T="list"\/T="tuple")(m:Sim C σ s.heap)(N:s.heap.get? a=Ja {cls:= .type T,data:= .seq vs k})(p:VRs C σ s.heap l vs.toList)
  (hz:Okl l) (q:wnew (.list l) σ Q):Jh (Mo C) A (call (.type "list") [.ref a]) (VP C none1 σ s Q) Er s:=by
 have g:vs.size=l.length:=by simpa using p.length
 have h:l.length<=1000000:=hz;refine call_list_seq a Y N rfl rfl (λS c M e=> ?_) (by simp[JL];exact zle (QT g)<|zb2 h rfl);exact VP.keptNew (o:= .list l) m M ⟨rfl,rfl⟩ (kc _) e (λX t=>⟨vs,c,rfl,p.step t⟩) q trivial
theorem qm:∀ {xs:XS},(∀y∈xs,KeyAt C σ h y.1 y.2.1)->VRs C σ h ((xs.map (·.1)).map keyPV) (xs.map λy=> .ref y.2.1)
 |[]=>λo0=>rfl
 |x::xs=>λk=>by
  obtain⟨n,w,m,g,i⟩:=k x<|.head _;refine⟨_,_,rfl,⟨_,m,w,rfl,n,g,?_⟩,qm λy W=>k y<|.tail _ W⟩;clear g;show VRs C σ h (x.1.map KA.pv) w.toList;generalize w.toList=l at i ⊢;generalize x.1=D at i ⊢
  induction i with
  |nil=>exact rfl
  |@cons a v L w N _ F=>
   refine⟨v,w,rfl,?_,F⟩
   induction a with
   |n j=>exact f8 N
   |t s=>exact gj N
theorem vr{ks:List (List KA)}(f:A.handled=Jb)(m:Sim C σ s.heap)(e:σ a=Ja (.dict ks l))(hz:Okl (ks.map keyPV))(q:wnew (.list (ks.map keyPV)) σ Q):
  Jh (Mo C) A (call (.type "list") [.ref a]) (VP C none1 σ s Q) Er s:=by
 obtain⟨P,D⟩:=m.dict e;obtain⟨o,U,p,g,M,E,x,o0⟩:=D.of;have r:U.size=ks.length:=by rw[J8 x,<-D.ks,Qd]
 refine W.kdl_call (w5 (es:=U) (ep:=p) D.sys) f ⟨o,g,M,E⟩ (by rw[r,JW];have:(ks.map keyPV).length<=1000000:=hz;rw[Qd] at this;exact zb2 this rfl) λR tk c K k d h=> ?_;refine VP.keptNew (o:= .list (ks.map keyPV)) m k ⟨rfl,rfl⟩ (kc _) d (λS Z=>⟨c,K,rfl,?_⟩) q trivial;have:c.toList=P.map λy=> .ref y.2.1:=by
  refine WF λi=> ?_;rw[Array.getElem?_toList,Qu];by_cases t:i<c.size
  ·obtain⟨N,T,w⟩:=h.2 i c[i] (KJ t);rw[entry_at x] at T;obtain⟨y,X,u⟩:=Qs.mp T;rw[KJ t,X,w,<-u];rfl
  ·have Y:P.length<=i:=by rw[<-J8 x];have:=h.1;exact zle (QT this.symm) (Kc.mp t)
   rw[Wk (Kc.mp t),KZ Y];rfl
 rw[this,<-D.ks];exact(qm D.ka).step Z
theorem nX:∀ {l:List PV} {is:List Int} {vs:List Jf},dZ l=Ja is->VRs C σ h l vs->IntsAre vs is
 |[],is,vs,e,r=>by change _=_ at r;subst r;obtain rfl:=sj e;exact .nil
 |p::l,is,vs,e,r=>by
  obtain⟨v,U,rfl,f,M⟩:=r
  induction p using PV.casesOn with
  |int i=>
   obtain⟨j,T,rfl⟩:=Qs.mp (show(dZ l).map (i:: ·)=Ja is from e);obtain⟨t,rfl⟩:=f;exact .cons i t<|nX T M
  |_=>first|exact onx e|cases e
theorem w4:∀ {is:List Int} {vs:List Jf},IntsAre vs is->VRs C σ h (is.map .int) vs:=λr=>by
 induction r with
 |nil=>rfl
 |cons i t r W=>exact⟨_,_,rfl,⟨t,rfl⟩,W⟩
theorem rR{is:List Int}(m:Sim C σ s.heap)(e:σ a=Ja (.list l))(hi:dZ l=Ja is)(T:is.length<64)(q:∀j:List Int,j.Perm is->j.Pairwise (· <= ·)->wlist (j.map .int) σ Q):
  Jh (Mo C) A (call (.builtin "sorted") [.ref a]) (VP C none1 σ s Q) Er s:=by
 obtain⟨v,k,N,h⟩:=m.list e;have g:v.toList.length=is.length:=by rw[eA hi];exact h.length
 refine sorted_ints (vs:=v.toList) (ns:=is) (by rw[Array.toArray_toList];exact⟨_,N,rfl,k,rfl⟩) (nX hi h) (by exact zl (QT g) T) λu f F L H=> ?_;obtain⟨S,O⟩:=sortedAll_at s.heap v.toList u;exact VP.keptNew (o:= .list (f.map .int)) m (λo0 o0=>sortedAll_old) ⟨rfl,rfl⟩ (WK<|WD _) O (λX t=>⟨_,S,rfl,w4 F⟩) (q f L H).2 trivial
end
end
section
open PySem.W
noncomputable def hsh(i j:Int):Int:=reduceHash<|Builtin.Tuple.tupleHashOf [hashInt i,hashInt j]
theorem wD:((Qc 64).map λi=>hsh ((i / 8:Nat):Int) ((i % 8:Nat):Int)).Nodup:=by decide+kernel
theorem tK{L:Type}{l:List L}(h:l.Nodup){i j:Nat}{a:L}(N:l[i]? =Ja a)(p:l[j]? =Ja a):i=j:=by
 obtain⟨o,q⟩:=QC.mp N;obtain⟨r,Z⟩:=QC.mp p;exact(List.getElem_inj h).mp (q.trans Z.symm)
theorem AQ{a b c d:Nat}(h:a=c)(k:b=d):hsh a b=hsh c d:=by subst h k;rfl
theorem xa{a b Y c:Nat}(E:a<8)(p:b<8)(J:Y<8)(h:c<8)(e:hsh a b=hsh Y c):a=Y/\b=c:=by
 have N:=wD;generalize w:(λi:Nat=>hsh ((i / 8:Nat):Int) ((i % 8:Nat):Int))=f at N;have at_:∀x y:Nat,x<8->y<8->((Qc 64).map f)[8*x+y]? =Ja (hsh x y):=λx y hx W=>by
  have u:f (8*x+y)=hsh x y:=(congrFun w<|8*x+y).symm.trans (AQ (zh1 W)<|zh2 W);have T:(Qc 64)[8*x+y]? =Ja (8*x+y):=Wu<|zh3 hx W;exact(Qu (f:=f) (l:=Qc 64) (i:=8*x+y)).trans ((Ub (Wn f) T).trans (Ub Ja u))
 have:=tK N (at_ a b E p)<|(at_ Y c J h).trans (Ub Ja e.symm);exact⟨(zh1 p).symm.trans ((Ub (· / 8) this).trans (zh1 h)),(zh2 p).symm.trans ((Ub (· % 8) this).trans (zh2 h))⟩
theorem tt{prog:Jn}{w:Jm}{k v:List KA}(h:dQ k=Jc)(S:dQ v=Jc)(e:(tk prog w).hash k=(tk prog w).hash v):k=v:=by
 obtain⟨a,b,rfl,N,p⟩:=i8 h;obtain⟨Y,c,rfl,J,O⟩:=i8 S;obtain⟨rfl,rfl⟩:=xa N p J O (show hsh a b=hsh Y c from e);rfl
theorem ku{L:Type}{f:L->Int}:∀ {l:List L},(l.map f).Nodup->(l.filter λx=>f x==c).length<=1
 |[]=>λo0=>QV _
 |a::l=>λh=>by
  obtain⟨N,Y⟩:=Qy.mp h;by_cases q:(f a==c)=Jc
  ·rw[Ko (p:=λx=>f x==c) q];have:l.filter (λx=>f x==c)=[]:=Yk.mpr λx hx z=>N<|Ql.mpr ⟨x,hx,(Y9 z).trans (Y9 q).symm⟩;rw[this];exact QA _
  ·rw[Kq (p:=λx=>f x==c) q];exact ku Y
section
variable{C:Cx}{σ:PH}{s:Je}{A:Jj}{Er:Jf->Je->Prop}
theorem uL{Q:Bool->Je->Prop}(q:(tk C.prog C.w).is s.heap k a)(h:Q Jd s):Jh (Mo C) A (Builtin.Dict.quietEq (.ref a)) Q Er s:=by
 show Jh _ _ (specialOf (.ref a) "__eq__">>=_) _ _ _;exact YD<|wpAny_specialOf (show s.TypeIs (.ref a) "tuple" from IsTupleKey.typeIs q) F.slot_tuple_eq.lookup (YE h)
theorem pU{id:String}{d:Jg}{o:Jp}{es:Array JP}{ep:Nat}{xs:List (List KA×Jg×Jf)}{Q:Array JP->Je->Prop}(w:s.heap.get? d=Ja o)(v:o.data= .dict es ep)(O:es.toList=xs.map (JN (tk C.prog C.w)))(hi:∀x∈xs,(tk C.prog C.w).is s.heap x.1 x.2.1)
  (c:(xs.map (·.1)).Nodup)(E:∀x∈xs,dQ x.1=Jc)(h:Q es s):Jh (Mo C) A (Builtin.Dict.entriesForEmpty id d) Q Er s:=by
 have n:(es.toList.map (·.hash)).Nodup:=by
  rw[O,QE];have:xs.map ((λx=>x.hash)∘JN (tk C.prog C.w))=(xs.map (·.1)).map (tk C.prog C.w).hash:=by rw[QE];rfl
  rw[this,QQ,Wq];rw[QQ] at c;refine c.imp_of_mem λ{a b} T R Y q=>Y ?_;obtain⟨x,hx,rfl⟩:=Ql.mp T;obtain⟨y,W,rfl⟩:=Ql.mp R;exact tt (E x hx) (E y W) q
 unfold Builtin.Dict.entriesForEmpty;refine YD<|wpAny_dictEntries w v ?_;refine YD ?_;rw[<-Array.forIn_toList];refine wpAny_forIn_list _ (λr o0 g=>g=s/\∀e∈r,e∈es.toList) _ ?_ ?_ _ _ ⟨rfl,λo0 e=>e⟩
 ·rintro e r b g ⟨rfl,l⟩;obtain⟨x,hx,rfl⟩:=Ql.mp<|O▸l e Wb;refine YD<|uL (hi x hx) ?_;have D:¬ (es.filter (·.hash==(JN (tk C.prog C.w) x).hash)).size>1:=by
   rw[<-Array.length_toList,Array.toList_filter];exact Kc.mpr<|ku n
  refine wy rfl<|wn D (YE ⟨rfl,λN S=>l N<|Kz _ S⟩)
 ·rintro b g ⟨rfl,o0⟩;exact YE h
theorem tm{nm:String}{d o:Jg}{v X:Jp}{es:Array JP}{xs:List (List KA×Jg×Jf)}{Q:Unit->Je->Prop}(V:d≠o)(S:(o==JD)=Jd)(Y:s.heap.get? d=Ja v)(I:v.data= .dict #[] p)
  (w:s.heap.get? o=Ja X)(W:X.data= .dict es ep)(O:es.toList=xs.map (JN<|tk C.prog C.w))(hi:∀x∈xs,(tk C.prog C.w).is s.heap x.1 x.2.1)(g:(xs.map (·.1)).Nodup)(E:∀x∈xs,dQ x.1=Jc)(n:xs≠ [])(hsz:xs.length<=JL)
  (h:Q () {s with heap:=s.heap.update d (Obj.mapDictKeys λo0=>es)}):Jh (Mo C) A (Builtin.Dict.mergeDict nm d o) Q Er s:=by
 have l:es.size=xs.length:=J8 O;have i:es.size≠0:=λq=>n<|WZ.mp (l.symm.trans q);unfold Builtin.Dict.mergeDict;refine wn (λq=>V<|eq_of_beq q) ?_;unfold Builtin.Dict.showsAll;refine YD<|wn (c:=(o==JD)=Jc) (by rw[S];exact QF) (YE ?_);refine YD<|wpAny_dictEntries w W ?_;have f:(es.all λe=>(keyPart e.key).isSome)=Jd:=by
  obtain⟨x,r,rfl⟩:=WN n;rw[<-Array.all_toList,O,Qq,List.all_cons];rfl
 refine wy (by rw[f,WI];rfl) ?_;refine YD<|wpAny_dictEntries Y I ?_;refine wy rfl ?_;refine YD<|pU w W O hi g E ?_;refine wy (by rw[show es.isEmpty=Jd from by rw[Array.isEmpty_eq_false_iff];exact λq=>i (by rw[q];rfl)];rfl) ?_;exact YD<|wpAny_updateDictKeysTo Y I (YE h) (by rw[l];exact Qv hsz<|WD _)
theorem sF{ks:List (List KA)}(m:Sim C σ s.heap)(e:σ a=Ja (.dict ks l))(hz:ks≠ []/\ks.length<=lim/\∀k∈ks,dQ k=Jc)(q:wnew (.dict ks l) σ Q)(N:s.heap.objs.size≠JD):
  Jh (Mo C) A (call (.type "dict") [.ref a]) (VP C none1 σ s Q) Er s:=by
 obtain⟨P,D⟩:=m.dict e;obtain⟨o,U,p,g,M,E,J,L,t⟩:=D.of;have r:P.length=ks.length:=by rw[<-D.ks,Qd]
 have d:s.heap.objs.size≠a:=λq=>absurd (QJ g) (by rw[q];exact KH _);refine callType_codes (Q₁:=λobj w=>obj= .ref s.heap.objs.size/\w={s with heap:=s.heap.push {cls:= .type "dict",data:= .dict #[]}}) F.kt_called_dict (F.kt_typeCall_dict_1 _) F.entry_dict_init (kt_code_dict_new _ ⟨rfl,rfl⟩) ?_;rintro obj w ⟨rfl,rfl⟩;have Y:(⟨s.heap.push {cls:= .type "dict",data:= .dict #[]},s.gens,s.drawn,s.toks,s.os⟩:Je).TypeIs (.ref s.heap.objs.size) "dict":=⟨_,QN _ rfl,rfl⟩
 have X:(s.heap.push {cls:= .type "dict",data:= .dict #[]}).get? a=Ja o:=Qw _ g;have T:(⟨s.heap.push {cls:= .type "dict",data:= .dict #[]},s.gens,s.drawn,s.toks,s.os⟩:Je).TypeIs (.ref a) "dict":=⟨_,X,M.1⟩
 refine⟨Y,F.args_dict_init_2 _ _,?_⟩;unfold Builtin.«dict.__init__»;refine YD ?_;unfold Builtin.Dict.selfAndRest;refine YD<|wpAny_notOrdered_dict Y ?_;show Jh _ _ (pure (s.heap.objs.size,[Value.ref a])) _ _ _;refine YE ?_;show Jh _ _ (Builtin.Dict.updateFrom "dict.__init__" s.heap.objs.size (.ref a) [] .none) _ _ _;unfold Builtin.Dict.updateFrom;refine YD<|wpAny_typeOf T ?_;refine wn (by decide) ?_;refine YD ?_;unfold Builtin.Dict.merge;refine YD ?_;unfold Builtin.Dict.readDirectly;refine YD<|wpAny_isInstance T isSubtype_dict_dict ?_;refine wn (by decide) ?_;refine YD<|wpAny_specialOf T F.slot_dict_iter.lookup (YE ?_);refine wy (by decide+kernel) ?_;refine YD<|YE ?_;refine tm d D.sys (QN _ rfl) rfl X E J (λx hx=> ?_) t (λx hx=>hz.2.2 _<|D.ks▸Ql.mpr ⟨x,hx,rfl⟩) (λq=>hz.1<|by rw[<-D.ks,q];rfl) (by rw[r,JW];exact zb2 hz.2.1 rfl) ?_
 ·exact((D.ka x hx).step (Step.push none1 σ s.heap _)).is
 show Jh _ _ (Builtin.Dict.addKeywords s.heap.objs.size []>>=_) _ _ _;refine YD<|YE (YE ⟨rfl,?_⟩);have kp:∀b W,s.heap.get? b=Ja W->((s.heap.push {cls:= .type "dict",data:= .dict #[]}).update s.heap.objs.size (Obj.mapDictKeys λo0=>U)).get? b=Ja W:=λb W h=>(Heap.get?_update_ne _ _ _ _<|KU (QJ h)).trans (Qw _ h);refine VP.keptNew (o:= .dict ks l) m kp ⟨rfl,rfl⟩ (kc _) (Kg _ (QN _ rfl) rfl) (λi Z=> ?_) q N;exact⟨U,_,P,⟨rfl,rfl,rfl⟩,rfl,J,D.ks,D.ks▸t,λy S=>(D.ka y S).step Z,D.v.step Z⟩
end
end
noncomputable def bty:List String:=["int","bool","list","tuple","dict"]
section
variable{C:Cx}{A:Jj}{Er:Jf->Je->Prop}{σ:PH}{s:Je}{Q:Post}{n:Nat}{fr:List Js}
theorem nv(h:T∈bty):YT (.type "NoneType") (.type T)=pure Jd:=by
 rw[JR];simp only[bty,Qt,Kl,or_false] at h
 rcases h with rfl|rfl|rfl|rfl|rfl<;>kernel_rfl
theorem wj(h:T∈bty):YT (.type "str") (.type T)=pure Jd:=by
 rw[JR];simp only[bty,Qt,Kl,or_false] at h
 rcases h with rfl|rfl|rfl|rfl|rfl<;>kernel_rfl
theorem sub_int(h:T∈bty):YT (.type "int") (.type T)=pure (decide (T="int")):=by
 rw[JR];simp only[bty,Qt,Kl,or_false] at h
 rcases h with rfl|rfl|rfl|rfl|rfl<;>kernel_rfl
theorem nW(h:T∈bty):YT (.type "bool") (.type T)=pure (decide (T="bool")||decide (T="int")):=by
 rw[JR];simp only[bty,Qt,Kl,or_false] at h
 rcases h with rfl|rfl|rfl|rfl|rfl<;>kernel_rfl
theorem n8(h:T∈bty):YT (.type "list") (.type T)=pure (decide (T="list")):=by
 rw[JR];simp only[bty,Qt,Kl,or_false] at h
 rcases h with rfl|rfl|rfl|rfl|rfl<;>kernel_rfl
theorem lG(h:T∈bty):YT (.type "tuple") (.type T)=pure (decide (T="tuple")):=by
 rw[JR];simp only[bty,Qt,Kl,or_false] at h
 rcases h with rfl|rfl|rfl|rfl|rfl<;>kernel_rfl
theorem dS(h:T∈bty):typeOf (.type T)=pure (.type "type"):=by
 simp only[bty,Qt,Kl,or_false] at h
 rcases h with rfl|rfl|rfl|rfl|rfl<;>kernel_rfl
theorem d7(h:U≠T):(Value.type T==Value.type U)=Jd:=by
 have:Value.type T≠Value.type U:=λe=>h<|by injection e with e;exact e.symm
 simpa using this
theorem yj(Y:T∈bty)(m:Sim C σ s.heap)(r:VR C σ s.heap p v)(H:isiV G σ p [T]=Ja b)(q:Q (.bool b) σ):
  Jh (Mo C) A (call (.builtin "isinstance") [v,.type T]) (VP C none1 σ s Q) Er s:=by
 have fin:∀tk,VP C none1 σ s Q (.bool b) {s with toks:=tk}:=λtk=>VP.here m rfl ⟨rfl,rfl⟩ fk q
 induction p using PV.casesOn with
 |none=>
  change _=_ at r;subst r;obtain rfl:=sj (show Ja Jd=Ja b from H);have c:T≠"NoneType":=by rintro rfl;exact absurd Y<|by decide
  exact Jz (S:=λo0 R s=>(λs:Je=>s.TypeIs .none "NoneType") s/\∀K,R (.ok<|.ret (.bool Jd)) {s with toks:=K})
   (λo0 o0 o0 o0 o0 E=>isinstance_outer<|Answers.of_false_none (d7 c) (dS Y) (nv Y) 0 0 _ _ _ _ _ E) ⟨rfl,fin⟩
 |str x=>
  obtain⟨t,rfl⟩:=r;obtain rfl:=sj (show Ja Jd=Ja b from H);have c:T≠"str":=by rintro rfl;exact absurd Y<|by decide
  exact Jz (isinstance_false_str (d7 c) (dS Y)<|wj Y)<|fin _
 |int i=>
  obtain⟨t,rfl⟩:=r;replace H:=Option.some.inj (show Ja ([T].contains "int")=Ja b from H);simp only[Wa,Yg,Bool.or_false] at H;by_cases h:T="int"
  ·subst h;have:b=Jc:=by rw[<-H];decide
   subst this;exact Jz (J9 (dS Y)<|by rw[sub_int Y];rfl) ⟨typeIs_int _ _ _,fin _⟩
  ·have:b=Jd:=by rw[<-H];simpa using λe=>h e.symm
   subst this;exact Jz (isinstance_false_int (d7 h) (dS Y)<|by rw[sub_int Y];simp[h])<|fin _
 |bool x=>
  change _=_ at r;subst r;replace H:=Option.some.inj (show Ja ([T].contains "bool"||[T].contains "int")=Ja b from H);simp only[Wa,Yg,Bool.or_false] at H;by_cases h:T="bool"\/T="int"
  ·have:b=Jc:=by rw[<-H];rcases h with rfl|rfl<;>decide
   subst this;exact Jz (J9 (Tx:="bool") (dS Y) (by rw[nW Y];rcases h with rfl|rfl<;>rfl)) ⟨rfl,fin _⟩
  ·have N:T≠"bool":=λe=>h<|.inl e;have B:T≠"int":=λe=>h<|.inr e;have:b=Jd:=by rw[<-H];simp[Ne.symm N,Ne.symm B]
   subst this;exact Jz (isinstance_false_bool (d7 N) (dS Y)<|by rw[nW Y];simp[N,B])<|fin _
 |tup l=>
  obtain⟨a,k,w,rfl,o0,N,o0⟩:=r;replace H:=Option.some.inj (show Ja ([T].contains "tuple")=Ja b from H);simp only[Wa,Yg,Bool.or_false] at H;by_cases h:T="tuple"
  ·subst h;have:b=Jc:=by rw[<-H];decide
   subst this;exact Jz (J9 (Tx:="tuple") (dS Y)<|by rw[lG Y];rfl) ⟨⟨_,N,rfl⟩,fin _⟩
  ·have:b=Jd:=by rw[<-H];simpa using λe=>h e.symm
   subst this;exact Jz (isinstance_false_tuple (d7 h) (dS Y)<|by rw[lG Y];simp[h]) ⟨⟨_,N,rfl⟩,fin _⟩
 |ref a=>
  change _=_ at r;subst r;replace H:isiO G [T] (σ a)=Ja b:=H
  induction M:σ a with
  |none=>rw[M] at H;exact onx H
  |some o=>
  rw[M] at H
  induction o with
  |list l=>
   replace H:=Option.some.inj (show Ja ([T].contains "list")=Ja b from H);simp only[Wa,Yg,Bool.or_false] at H;obtain⟨w,k,N,o0⟩:=m.list M;by_cases h:T="list"
   ·subst h;have:b=Jc:=by rw[<-H];decide
    subst this;exact Jz (J9 (Tx:="list") (dS Y)<|by rw[n8 Y];rfl) ⟨⟨_,N,rfl⟩,fin _⟩
   ·have:b=Jd:=by rw[<-H];simpa using λe=>h e.symm
    subst this;exact Jz (isinstance_false_list (d7 h) (dS Y)<|by rw[n8 Y];simp[h]) ⟨⟨_,N,rfl⟩,fin _⟩
  |_=>exact onx H
 |scr l=>exact onx H
end
theorem lz(h:place n k=Ja j):seqIndex? k n=Ja j/\j<n:=by
 unfold place at h;unfold seqIndex?
 split at h
 ·rename_i i
  split at h
  ·rename_i N
   obtain rfl:=sj h;refine⟨?_,by exact(KV i).mpr N⟩;simp only[show ¬k<0 by exact KG.mpr i,if_false];rw[Y8 (by simp only[QW,Ua];exact⟨i,N⟩)]
  ·exact ns h
 ·rename_i i
  split at h
  ·rename_i N
   obtain rfl:=sj h;refine⟨?_,by exact(KV N).mpr (zng i)⟩;simp only[show k<0 by exact Int.not_le.mp i,if_true];rw[Y8 (by simp only[QW,Ua];exact⟨N,zng i⟩)]
  ·exact ns h
theorem kh(h:place n k=Ja j): -(n:Int)<=k/\k<n:=by
 unfold place at h;by_cases i:0<=k
 ·rw[Y8 i] at h;by_cases N:k<n
  ·exact⟨QP (Int.neg_nonpos_of_nonneg<|QU _) i,N⟩
  ·rw[Y7 N] at h;exact ns h
 ·rw[Y7 i] at h;by_cases N:0<=k+n
  ·exact⟨Int.add_nonneg_iff_neg_le.mp N,Ky (Int.not_le.mp i)<|QU _⟩
  ·rw[Y7 N] at h;exact ns h
theorem lM{k:Int}(i:0<=k)(h:place n k=Ja j):j=k.toNat:=by
 unfold place at h;rw[Y8 i] at h
 split at h
 ·obtain rfl:=sj h;rfl
 ·exact ns h
theorem si(i:¬0<=k)(h:place n k=Ja j):j=(k+n).toNat:=by
 unfold place at h;rw[Y7 i] at h
 split at h
 ·obtain rfl:=sj h;rfl
 ·exact ns h
section
variable{C:Cx}{A:Jj}{Er:Jf->Je->Prop}{σ:PH}{s:Je}{Q:Post}{n:Nat}{fr:List Js}
theorem mY(slice:Jl)(o i:Jf):∃ops,subscripted slice Jd o i=operate ops (getItem o i):=by
 induction slice using Expr.casesOn with
 |Slice l u st p=>induction st with
  |none=>exact⟨_,rfl⟩
  |some x=>exact⟨_,rfl⟩
 |_=>exact⟨_,rfl⟩
theorem i9{vs:Array Jf}{R:Jf->Je->Prop}(l:s.heap.IsList a vs)(hz:vs.size<=10000000)(H:place vs.size k=Ja j)(hx:vs[j]? =Ja x)(h:R x s):
  Jh (Mo C) A (getItem (.ref a)<|.int k t) R Er s:=by
 obtain⟨b,V⟩:=kh H;by_cases i:0<=k
 ·have e:=lM i H;subst e;exact wpAny_getItem_list l i (by exact zi1 hz V) hx h
 ·have e:=si i H;subst e;exact wpAny_getItem_list_neg l (by exact Int.not_le.mp i) b (by exact zi2 hz b) hx h
theorem vy(u:A.units+100<cLine)(m:Sim C σ s.heap)(e:σ a=Ja (.dict ks l))(r:VR C σ s.heap i w)(M:keyOf i=Ja k)(hx:klook ks l k=Ja x)
  (q:Q x σ):Jh (Mo C) A (PyProof.Rows.subscriptTail v c (.ref a) w) (VP C none1 σ s Q) Er s:=by
 obtain⟨P,D⟩:=m.dict e;obtain⟨b,rfl,R⟩:=kS M r
 rcases D.look (k:=k) with⟨z,o0⟩|⟨p,y,z1,z2,z3⟩
 ·exact sn<|hx.symm.trans z
 ·obtain rfl:=sj<|hx.symm.trans z1;obtain⟨o,h⟩:=mY c (.ref a)<|.ref b;exact PyProof.Rows.tail_any (T:="dict") D.of.typeIs slot_dict_getitem.lookup (wpAny_getItem_heap (iH u) R.is D.of z2<|VP.here m rfl ⟨rfl,rfl⟩ z3 q) h
theorem yY(m:Sim C σ s.heap)(r:VR C σ s.heap p v)(I:VR C σ s.heap i w)(e:psub σ p i=Ja x)(hz:∀k,plen σ p=Ja k->k<=10000000)
  (q:Q x σ):Jh (Mo C) A (PyProof.Rows.subscriptTail V c v w) (VP C none1 σ s Q) Er s:=by
 induction p using PV.casesOn with
 |ref a=>
  change _=_ at r;subst r;replace e:psubO i (σ a)=Ja x:=e
  induction M:σ a with
  |none=>rw[M] at e;exact onx e
  |some o=>
  rw[M] at e
  induction o with
  |list l=>
   replace e:psubL l i=Ja x:=e
   induction i using PV.casesOn with
   |int k=>
   replace e:((place l.length k).bind λj=>l[j]?)=Ja x:=e;obtain⟨t,rfl⟩:=I;obtain⟨J,X,N,Y⟩:=m.list M;have g:J.size=l.length:=by simpa using Y.length
   obtain⟨j,H,hx⟩:=Qr.mp e;obtain⟨K,L,R⟩:=Y.get j x hx;obtain⟨z,d⟩:=mY c (.ref a)<|.int k t;have h:=hz l.length (by show lenO (σ a)=_;rw[M];rfl);exact PyProof.Rows.tail_any (T:="list") ⟨_,N,rfl⟩ slot_list_getitem.lookup
    (i9 ⟨_,N,rfl,X,rfl⟩ (by exact zle (QT g) h) (by rw[g];exact H) (by simpa using L)<|VP.here m rfl (Rest.refl s) R q) d
   |_=>exact onx e
  |_=>exact onx e
 |tup l=>
  induction i using PV.casesOn with
  |int k=>
   replace e:((place l.length k).bind λj=>l[j]?)=Ja x:=e;obtain⟨a,X,J,rfl,B,N,Y⟩:=r;obtain⟨t,rfl⟩:=I;have g:J.size=l.length:=by simpa using Y.length
   obtain⟨j,H,hx⟩:=Qr.mp e;obtain⟨K,L,R⟩:=Y.get j x hx;obtain⟨z,d⟩:=mY c (.ref a)<|.int k t;have h:=hz l.length rfl;obtain⟨b,W⟩:=kh H;exact PyProof.Rows.tail_any (T:="tuple") ⟨_,N,rfl⟩ F.slot_tuple_getitem.lookup
    (P.getItem_tuple N (by exact zi2 h b) (by exact zi1 h W) (by rw[g];exact(lz H).1) (by simpa using L)<|VP.here m rfl (Rest.refl s) R q) d
  |_=>first|exact bnx e|exact onx e|cases e
 |scr l=>
  induction i using PV.casesOn with
  |int k=>
   replace e:(((place l.length k).bind λj=>l[j]?).map PV.int)=Ja x:=e;obtain⟨a,o,X,J,rfl,N,Y,G,g,O⟩:=r;obtain⟨t,rfl⟩:=I;obtain⟨y,E,rfl⟩:=Qs.mp e;obtain⟨j,H,hx⟩:=Qr.mp E;obtain⟨u,D⟩:=O j y hx;obtain⟨z,d⟩:=mY c (.ref a)<|.int k t;have h:=hz l.length rfl;exact PyProof.Rows.tail_any (T:="list") ⟨_,m.base _ _ N,Y⟩ slot_list_getitem.lookup
    (i9 ⟨_,m.base _ _ N,Y,X,G⟩ (by exact zle (QT g) h) (by rw[g];exact H) D<|VP.here m rfl (Rest.refl s) (d5 _) q) d
  |_=>first|exact bnx e|exact onx e|cases e
 |_=>first|exact bnx e|exact onx e|cases e
theorem lv{vs:Array Jf}{R:Unit->Je->Prop}(T:s.heap.get? l=Ja (lstO vs X))(hz:vs.size<=10000000)(H:place vs.size k=Ja j)
  (h:R () {s with heap:=s.heap.update l (Obj.mapSeq (·.setIfInBounds j v))}):Jh (Mo C) A (setItem (.ref l) (.int k t) v) R Er s:=by
 have Y:s.TypeIs (.ref l) "list":=⟨_,T,rfl⟩
 obtain⟨N,E⟩:=kh H;obtain⟨d,S⟩:=lz H;have hx:vs[j]? =Ja vs[j]:=KJ S;have V:Builtin.List.listFitsIndex k=Jc:=by
  unfold Builtin.List.listFitsIndex;simp only[QW,Ua];exact⟨zi2 hz N,zi1 hz E⟩
 unfold setItem
 try with_reducible refine YH ?_
 first|refine YD (YE ?_)|skip
 refine YD (wpAny_sequenceKey Y (by decide) ?_);refine YD (JC (name:=Qb "__setitem__") Y slot_list_setitem
  (YJ slot_list_setitem Y entry_list_setitem ?_ (args_list_setitem _ _ _)))
 show Jh _ _ (Builtin.List.listSubscript? (.int k t)>>=_) _ _ s;refine YD<|wpAny_listSubscript_int V ?_;have fin:Jh (Mo C) A.in1.in1 (setSeqItemAt l j v>>=λo0=>ret .none) (λf g=>∃w,f= .done (.ret w)/\Jh (Mo C) A (pure ()) R Er g) Er s:=
  YD (YW T rfl<|YE ⟨.none,rfl,YE h⟩)
 clear V
 induction k with
 |ofNat i=>
  have b:j=i:=lM (QU i) H;subst b;show Jh _ _ ((seqItemAt l j>>=λr=>pure (r.map (j,·)))>>=_) _ _ s;refine YD<|YD (wpAny_seqItemAt T rfl<|YE ?_);rw[hx];show Jh _ _ (setSeqItemAt l j v>>=_) _ _ s;refine YD<|wpAny_setSeqItemAt T rfl ?_
  first
   |exact YD<|YE (YE ⟨.none,rfl,YE h⟩)
   |exact YE ⟨.none,rfl,YE h⟩
 |negSucc i=>
  show Jh _ _ ((Builtin.List.listItems (.ref l)>>=λx=>pure ((seqIndex? (Int.negSucc i) x.size).bind λi=>x[i]?.map (i,·)))>>=_) _ _ s;refine YD<|YD ?_;show Jh _ _ (seqItems? (.ref l)>>=_) _ _ s;refine YD<|wpAny_seqItems T rfl (YE<|YE ?_);rw[d];simp only[KY,hx,We];refine YD<|wpAny_setSeqItemAt T rfl ?_
  first
   |exact YD<|YE (YE ⟨.none,rfl,YE h⟩)
   |exact YE ⟨.none,rfl,YE h⟩
end
abbrev EOK(C:Cx)(A:Jj)(σ:PH)(s:Je)(t:Sem Jf)(Q:Post)(X:XPost):Prop:=Jh (Mo C) A t (VP C none1 σ s Q) (XP C none1 σ s X) s
abbrev EOKs(C:Cx)(A:Jj)(σ:PH)(s:Je)(t:Sem (List Jf))(Q:List PV->PH->Prop)(X:XPost):Prop:=Jh (Mo C) A t (VPs C none1 σ s Q) (XP C none1 σ s X) s
section
variable{C:Cx}{A:Jj}{σ:PH}{s:Je}{Q:Post}{X:XPost}
theorem EOK.then{R:Jf->Je->Prop}(h:EOK C A σ s t Q' X)
  (k:∀v W p σ1,VR C σ1 W.heap p v->Sim C σ1 W.heap->Step none1 σ s.heap σ1 W.heap->Rest s W->Q' p σ1->R v W):Jh (Mo C) A t R (XP C none1 σ s X) s:=
 VP.to h k λo0 o0 x=>x
theorem EOK.after{d:PH}{m:Je}(st:Step none1 σ s.heap d m.heap)(r:Rest s m)(h:EOK C A d m t Q X):Jh (Mo C) A t (VP C none1 σ s Q) (XP C none1 σ s X) m:=
 YF h (λo0 o0 x=>VP.from st r x) λo0 o0 x=>XP.from st r x
end
section
variable{C:Cx}{G:Gx}{mg mb:Jq->Option Jf}{A:Jj}{env:Js}{ρ:Rho}{σ:PH}{s:Je}{Q:Post}{X:XPost}
noncomputable def d8:List Jl->Bool
 |[]=>Jc
 | .Starred .. ::_=>Jd
 |_::r=>d8 r
theorem iS(hy:∀z q,y≠ .Starred z q)(hr:d8 r=Jc):d8 (y::r)=Jc:=by
 induction y using Expr.casesOn with
 |Starred z q=>exact absurd rfl<|hy z q
 |_=>exact hr
theorem dc(h:∀x p,e≠ .Starred x p):JE (e::r) env=(Jd,Jw e env)::JE r env:=by
 rcases e with⟨⟩<;>first|rfl|exact absurd rfl<|h _ _
theorem i0:∀ {es:List Jl},d8 es=Jc->(JY pos (JE es env)).any (·.1)=Jd
 |[]=>λo0=>rfl
 |e::r=>λh=>by
  have n:∀x p,e≠ .Starred x p:=by rintro x p rfl;exact ft h
  have T:d8 r=Jc:=by rcases e with⟨⟩<;>first|exact h|exact ft h
  rw[dc n];have:=i0 (pos:=pos) T;simp only[JY,Qq,List.any_cons,Bool.false_or] at this ⊢;exact this
theorem eU{R:Jf->Je->Prop}{Er:Jf->Je->Prop}(kp:Kp C f)(D:d8 es=Jc)
  (h:Jh (Mo C) A (spliced<|backTo pos (JE es env)) (λvs m=>(∀b o,C.B.get? b=Ja o->m.heap.get? b=Ja o)/\Jh (Mo C) A (call f<|first++vs) R Er m) Er s):
  Jh (Mo C) A (callWith pos f first (JY pos<|starEach es env)<|backToKw pos (J3 [] env)) R Er s:=by
 obtain⟨k,q,L⟩:=kp;refine W.callWith_of (P:=λh=>∀b o,C.B.get? b=Ja o->h.get? b=Ja o) ?_ (λh v=>⟨k,q,L.keeps v⟩) ?_
 ·rw[i0 D];rfl
 ·induction es using List.casesOn with
  |nil=>
   show Jh (Mo C) A (evalArgs f Jc [] []) _ _ s;unfold evalArgs;show Jh (Mo C) A (spliced []>>=_) _ _ s;refine YD (YF h (λvs g S=> ?_) λo0 o0 x=>x);exact YD<|YE (YH<|YD (YE<|YD (YE<|YE S)))
  |cons e r=>
   have n:∀x p,e≠ .Starred x p:=by rintro x p rfl;exact ft D
   rw[dc n] at h ⊢;exact Calls.evalArgs_plain h
end
noncomputable def BI.val:BI->Jf
 | .len=> .builtin "len"| .all=> .builtin "all"| .sum=> .builtin "sum"| .int=> .type "int"| .list=> .type "list"| .min=> .builtin "min"| .sorted=> .builtin "sorted"| .dict _=> .type "dict"| .any=> .builtin "any"| .abs=> .builtin "abs"
theorem BI.kp(C:Cx)(b:BI):Kp C b.val:=by
 rcases b with o0|o0|o0|o0|o0|o0|o0|⟨⟨⟩⟩|o0|o0<;>exact⟨.machine,.inr<|.inl rfl,W.Looks.of_pure rfl⟩
theorem BI.boot(b:BI):YX (Qb b.nm)=Ja b.val:=by
 rcases b with o0|o0|o0|o0|o0|o0|o0|⟨⟨⟩⟩|o0|o0<;>decide+kernel
theorem BI.mem(b:BI):b.nm∈bltNames:=by
 rcases b with o0|o0|o0|o0|o0|o0|o0|⟨⟨⟩⟩|o0|o0<;>decide
section
variable{C:Cx}{A:Jj}{Er:Jf->Je->Prop}{σ:PH}{s:Je}{Q:Post}
theorem VRs.one(r:VRs C σ h [p] vs):∃v,vs=[v]/\VR C σ h p v:=by
 obtain⟨v,q,rfl,N,rfl⟩:=r;exact⟨v,rfl,N⟩
theorem VRs.two(r:VRs C σ h [p,q] vs):X2 λv w=>A3 (vs=[v,w]) (VR C σ h p v) (VR C σ h q w):=by
 obtain⟨v,q,rfl,N,w,r,rfl,Y,rfl⟩:=r;exact⟨v,w,rfl,N,Y⟩
theorem AO{b:BI}{args:List PV}(U:A.handled=Jb)(d:A.units+100<cLine)(m:Sim C σ s.heap)(r:VRs C σ s.heap args vs)(w:wbi b args σ Q)(W:s.heap.objs.size≠JD):
  Jh (Mo C) A (call b.val vs) (VP C none1 σ s Q) Er s:=by
 have F:∀ {K:PV->Prop} {f:Jf},on1 K args->(∀p v,K p->VR C σ s.heap p v->Jh (Mo C) A (call f [v]) (VP C none1 σ s Q) Er s)->Jh (Mo C) A (call f vs) (VP C none1 σ s Q) Er s:=λw k=>by
  obtain⟨p,rfl,w⟩:=wO w;obtain⟨v,rfl,S⟩:=r.one;exact k p v w S
 have E:∀ {K:List PV->Prop} {p:PV} {v:Jf} {f:Jf},onL σ K p->VR C σ s.heap p v->(∀a l,K l->σ a=Ja (.list l)->Jh (Mo C) A (call f [.ref a]) (VP C none1 σ s Q) Er s)->Jh (Mo C) A (call f [v]) (VP C none1 σ s Q) Er s:=λw S k=>by
  obtain⟨a,l,rfl,e,j⟩:=fY w;rw[show _=Value.ref a from S];exact k a l j e
 induction b with
 |len=>
  exact F w λp v w S=>by
   obtain⟨n,e,w⟩:=hZ w;exact Ad m S e w.1 w.2
 |all=>
  exact F w λp v w S=>E w S λa l w e=>by
   obtain⟨bs,h,w⟩:=jY w;exact y9 U m e h w
 |any=>
  exact F w λp v w S=>E w S λa l w e=>by
   obtain⟨bs,h,w⟩:=jY w;exact zi U m e h w
 |abs=>
  exact F w λp v w S=>by
   obtain⟨x,rfl,w⟩:=d9 w;obtain⟨t,rfl⟩:=S;exact PyProof.Rows.call_abs_int λu tk=>VP.here m rfl ⟨rfl,rfl⟩ (d5 _) w
 |sum=>
  exact F w λp v w S=>E w S λa l w e=>by
   obtain⟨bs,h,w⟩:=j3 w;exact Ak U m e h w
 |int=>
  exact F w λp v w S=>by
   obtain⟨x,rfl,w⟩:=kI w;rw[show v= .bool x from S];exact call_int_bool<|VP.here m rfl ⟨rfl,rfl⟩ (d5 _) w
 |list=>
  exact F w λp v w S=>by
   rcases w with w|w
   ·obtain⟨a,L,l,rfl,e,j⟩:=ip w;rw[show v= .ref a from S];exact vr U m e j.1 j.2
   rcases vU w with⟨l,rfl,w⟩|⟨a,l,rfl,e,B⟩
   ·obtain⟨a,k,vs,rfl,O,N,Y⟩:=S;exact qi (.inr rfl) m N Y w.1 w.2
   ·rw[show v= .ref a from S];obtain⟨vs,k,N,Y⟩:=m.list e;exact qi (.inl rfl) m N Y B.1 B.2
 |min=>
  exact F w λp v w S=>E w S λa l w e=>by
   obtain⟨is,i,w⟩:=j3 w;exact yE U m e i w.1 w.2
 |sorted=>
  exact F w λp v w S=>E w S λa l w e=>by
   obtain⟨is,i,w⟩:=j3 w;exact rR m e i w.1 w.2
 |dict=>
  exact F w λp v w S=>by
   obtain⟨a,L,l,rfl,e,j⟩:=ip w;rw[show v= .ref a from S];exact sF m e j.1 j.2 W
end
section
set_option backward.match.sparseCases true
def Mv(F:Jg->Prop)(h h':Ji):Prop:=∀c o,¬F c->h.get? c=Ja o->h'.get? c=Ja o
def Fok(C:Cx)(σ:PH)(h:Ji)(F:Jg->Prop):Prop:=
 ∀c,F c->C.B.get? c=Jb/\((σ c=Jb/\∀v n,h.get? c≠Ja (tupO v n))\/σ c=Ja .hid)
section
variable{C:Cx}{F:Jg->Prop}{σ:PH}{h h':Ji}
theorem Mv.refl:Mv F h h:=λo0 o0 o0 e=>e
theorem Mv.mono{I:Jg->Prop}(x:Mv F h h')(k:∀c,F c->I c):Mv I h h':=λc o f e=>x c o (λq=>f (k c q)) e
mutual
theorem VR.mv(mv:Mv F h h')(fo:Fok C σ h F):∀ (p:PV) (v:Jf),VR C σ h p v->VR C σ h' p v
 | .none=>λo0 e=>e
 | .bool _=>λo0 e=>e
 | .int _=>λo0 e=>e
 | .str _=>λo0 e=>e
 | .ref _=>λo0 e=>e
 | .scr _=>λo0 e=>e
 | .tup l=>λv e=>by
  obtain⟨a,n,vs,T,es,e2,V⟩:=e;refine⟨a,n,vs,T,es,mv a _ (λf=> ?_) e2,VRs.mv mv fo l _ V⟩
  rcases (fo a f).2 with⟨o0,q⟩|q
  ·exact q vs n e2
  ·exact ns<|es.symm.trans q
theorem VRs.mv(mv:Mv F h h')(fo:Fok C σ h F):∀ (l:List PV) (vs:List Jf),VRs C σ h l vs->VRs C σ h' l vs
 |[]=>λo0 e=>e
 |p::ps=>λvs e=>by
  obtain⟨v,r,T,e2,X⟩:=e;exact⟨v,r,T,VR.mv mv fo p v e2,VRs.mv mv fo ps r X⟩
end
theorem KeyAt.mv(mv:Mv F h h')(fo:Fok C σ h F)(x:KeyAt C σ h k a):KeyAt C σ h' k a:=by
 obtain⟨n,v,m,g,i⟩:=x;refine⟨n,v,m,mv a _ (λf=> ?_) g,i⟩
 rcases (fo a f).2 with⟨o0,q⟩|q
 ·exact q v m g
 ·exact ns<|n.symm.trans q
theorem OR.mv(mv:Mv F h h')(fo:Fok C σ h F):∀ (p:PO) (o:Jp),OR C σ h p o->OR C σ h' p o:=λp o r=>by
 induction p with
 |list l=>obtain⟨J,n,w,X⟩:=r;exact⟨J,n,w,VRs.mv mv fo _ _ X⟩
 |dict=>obtain⟨U,s,P,x,d,e,k,nd,a,v⟩:=r;exact⟨U,s,P,x,d,e,k,nd,λy W=>(a y W).mv mv fo,VRs.mv mv fo _ _ v⟩
 |fd=>obtain⟨U,s,e,k,v,z⟩:=r;exact⟨U,s,e,k,λi f p N Y=>(v i f p N Y).imp λu q=>⟨q.1,VR.mv mv fo _ _ q.2⟩,z⟩
 |_=>exact r
theorem Sim.mv(m:Sim C σ h)(mv:Mv F h h')(fo:Fok C σ h F)(U:∀c,F c->σ c=Ja .hid->∃a b,h'.get? c=Ja (tupO #[a,b] 0)):Sim C σ h' where
 base:=λb o e=>mv b o (λf=>by have:=(fo b f).1;exact sn<|e.symm.trans this)<|m.base b o e
 new:=m.new
 objs:=λa o e=>by
  obtain⟨W,N,p⟩:=m.objs a o e;by_cases f:F a
  ·rcases (fo a f).2 with⟨q,o0⟩|q
   ·exact ns<|q.symm.trans e
   ·obtain rfl:=sj<|q.symm.trans e;obtain⟨x,y,g⟩:=U a f q;exact⟨_,g,x,y,rfl⟩
  ·exact⟨W,mv a W f N,p.mv mv fo⟩
 rich:=m.rich
theorem Step.mv{S:Jg->Prop}{h₀:Ji}(st:Step S B h₀ σ h)(mv:Mv F h h')(W:∀c,F c->h₀.get? c=Jb):Step S B h₀ σ h' where
 keep:=λb o e s=>by
  obtain⟨g,i,y,l⟩:=st.keep b o e s;exact⟨g,i,mv b i (λf=>by exact ns<|(W b f).symm.trans e) y,l⟩
 grow:=st.grow
 fix:=st.fix
 live:=λb e=>by
  by_cases f:F b
  ·exact W b f
  ·refine st.live b ?_
   induction q:h.get? b with
   |none=>rfl
   |some o=>exact sn<|(mv b o f q).symm.trans e
theorem Step.mvS{S:Jg->Prop}{h₀:Ji}(st:Step S B h₀ σ h)(mv:Mv F h h')(W:∀c,F c->h₀.get? c=Jb\/(S c/\(∀o,h₀.get? c=Ja o->¬isSeq o)/\∃o,h'.get? c=Ja o)):Step S B h₀ σ h' where
 keep:=λb o e s=>by
  obtain⟨g,i,y,l⟩:=st.keep b o e s;by_cases f:F b
  ·rcases W b f with q|⟨N,Z,P,Q⟩
   ·exact ns<|q.symm.trans e
   ·exact⟨g,P,Q,λx=>absurd (x N)<|Z o e⟩
  ·exact⟨g,i,mv b i f y,l⟩
 grow:=st.grow
 fix:=st.fix
 live:=λb e=>by
  by_cases f:F b
  ·rcases W b f with q|⟨o0,o0,P,Q⟩
   ·exact q
   ·exact sn<|Q.symm.trans e
  ·refine st.live b ?_
   induction q:h.get? b with
   |none=>rfl
   |some o=>exact sn<|(mv b o f q).symm.trans e
theorem EnvR.mv{env:Js}(x:EnvR C env L σ h)(mv:Mv F h h')(fo:Fok C σ h F)(fl:¬F env.locals)(f:∀y c,env.cells.lookup y=Ja c->¬F c):EnvR C env L σ h' where
 fn:=x.fn
 glob:=x.glob
 blt:=x.blt
 ns:=by
  obtain⟨m,n,hv⟩:=x.ns;exact⟨m,Ns.like n λo e=>⟨o,mv _ o fl e,.refl o⟩,λy p T w=>by obtain⟨v,a,b⟩:=hv y p T w;exact⟨v,a,b.mv mv fo⟩⟩
 cell:=λy p T w=>by
  obtain⟨c,v,a,b,d⟩:=x.cell y p T w;exact⟨c,v,a,IsCell.like b λo e=>⟨o,mv _ o (f y c a) e,.refl o⟩,d.mv mv fo⟩
 newL:=x.newL
 newC:=λy c e=>by
  obtain⟨a,v,b⟩:=x.newC y c e;exact⟨a,v,IsCell.like b λo g=>⟨o,mv _ o (f y c e) g,.refl o⟩⟩
 baseL:=x.baseL
 baseC:=x.baseC
 apart:=x.apart
 hasC:=x.hasC
theorem Frs.mv(f:Frs C σ h l)(mv:Mv F h h')(W:∀env∈l,∀L,env.frame=Ja L->¬F L):Frs C σ h' l:=λenv e=>by
 obtain⟨k,L,o,s,n,T,w,X,u,V⟩:=f env e;exact⟨k,L,o,s,n,T,w,X,mv L o (W env e L T) u,V⟩
theorem AOK.mv(x:AOK C n A l σ h)(mv:Mv F h h')(f:∀env∈l,∀L,env.frame=Ja L->¬F L):AOK C n A l σ h':=
 ⟨x.depth,x.units,x.stack,x.frs.mv mv f,x.calm⟩
theorem gx{o:Jp}(e:h.get? c=Ja o)(q:o.cls≠ .type "tuple"):∀vs n,h.get? c≠Ja (tupO vs n):=λvs n x=>by obtain rfl:=sj<|e.symm.trans x;exact q rfl
end
structure Src(C:Cx)(A:Jj)(t:Jl)(I:Jg)(fp:List Jg)(xs:List PV)(chk:PH->Prop)(St:Nat->PH->Ji->Prop):Prop where
 hdn:A.handled=Jb
 step:∀ {i:Nat} {S:Jg->Prop} {σ:PH} {h:Ji} {σ':PH} {h':Ji},St i σ h->Step S σ h σ' h'->(∀b∈fp,¬S b)->St i σ' h'
 mv:∀ {i:Nat} {F:Jg->Prop} {σ:PH} {h h':Ji},St i σ h->Mv F h h'->Fok C σ h F->(∀b∈fp,¬F b)->St i σ h'
 fok:∀ {i:Nat} {σ:PH} {h:Ji},St i σ h->Fok C σ h (· ∈fp)
 item:∀ {i:Nat} {x:PV} {σ:PH} {s:Je} {R:Option Jf->Je->Prop} {Er:Jf->Je->Prop},xs[i]? =Ja x->Sim C σ s.heap->chk σ->St i σ s.heap->
  (∀v s1,(∀ (K:Unit->Je->Prop) (Er':Jf->Je->Prop),(∀s2,VR C σ s2.heap x v->Sim C σ s2.heap->Mv (· ∈fp) s.heap s2.heap->St (i+1) σ s2.heap->Rest s s2->K () s2)->
   Jh (Mo C) A (letOwnedTupleGo t (.ref I) v) K Er' s1)->R (Ja v) s1)->Jh (Mo C) A (pyNext (.ref I)) R Er s
 done:∀ {σ:PH} {s:Je} {R:Option Jf->Je->Prop} {Er:Jf->Je->Prop},Sim C σ s.heap->chk σ->St xs.length σ s.heap->
  (∀s2,Sim C σ s2.heap->Mv (· ∈fp) s.heap s2.heap->Rest s s2->R Jb s2)->Jh (Mo C) A (pyNext<|.ref I) R Er s
 self:∀ {i:Nat} {σ:PH} {s:Je} {R:Jf->Je->Prop} {Er:Jf->Je->Prop},St i σ s.heap->R (.ref I) s->Jh (Mo C) A (YN<|.ref I) R Er s
section
variable{C:Cx}{A:Jj}{σ:PH}{h h':Ji}
theorem fE{o:Jp}{s:Je}{K:Unit->Je->Prop}{Er:Jf->Je->Prop}(ho:s.heap.get? I=Ja o)(hc:o.cls= .type n)
  (hn:["enumerate","zip","dict_itemiterator","dict_reverseitemiterator","odict_iterator","itertools.zip_longest","itertools.pairwise"].contains n=Jd)(h:K () s):
  Jh (Mo C) A (letOwnedTupleGo t (.ref I) v) K Er s:=by
 have key:Jh (Mo C) A (do
   let(.ref r,.ref a):=(Value.ref I,v)|return
   let o<-load r
   match o.cls,o.data with
   | .type n,.fields vs=>
    if ["enumerate","zip","dict_itemiterator","dict_reverseitemiterator","odict_iterator","itertools.zip_longest","itertools.pairwise"].contains n&&vs[0]? ==Ja (Jx a) then
     rule "for.unpacks-the-owned-tuple"
     updateField r 0 .none
   |_,_=>pure ()) K Er s:=by
  induction v using Value.casesOn with
  |ref a=>
   refine YD<|wpAny_load ho ?_;rw[hc]
   induction hd:o.data with
   |fields vs=>
    dsimp only;rw[hn];simp only[Bool.false_and,Bool.false_eq_true,if_false];exact YE h
   |_=>exact YE h
  |_=>exact YE h
 induction t using Expr.casesOn with
 |Tuple a b c=>exact key
 |List a b=>exact key
 |_=>exact YE h
theorem fm(b:C.B.get? I=Jb)(N:σ I=Jb){o:Jp}(e:h.get? I=Ja o)(q:o.cls≠ .type "tuple"):Fok C σ h (· ∈ [I]):=λc f=>by
 have f:=Qk.mp f;subst f;exact⟨b,.inl ⟨N,gx e q⟩⟩
theorem gE(N:σ I=Jb):∀c,c∈ [I]->σ c=Ja .hid->∃a b,h'.get? c=Ja (tupO #[a,b] 0):=λc f q=>by
 rw[Qk] at f;subst f;exact ns<|N.symm.trans q
theorem gG(k:Heap.ExtBut I h h'):Mv (· ∈ [I]) h h':=λc o f e=>k c o (λq=>f (Qk.mpr q)) e
theorem Src.list(U:A.handled=Jb)(t:Jl)(I a:Jg)(l:List PV):
  Src C A t I [I] l (λσ=>σ a=Ja (.list l)) (λi σ h=>σ I=Jb/\C.B.get? I=Jb/\h.IsListIter I a i) where
 hdn:=U
 step:=λz Q S=>by
  obtain⟨N,b,o,p,J,O⟩:=z;obtain⟨G,V,X,y⟩:=Q.keep _ o p N;have k:=y λx=>absurd x<|S _ (.head _);exact⟨G,b,V,X,k.1.trans J,k.2.2.1.trans O⟩
 mv:=λz mv q W=>by obtain⟨N,b,o,p,J⟩:=z;exact⟨N,b,o,mv _ o (W _<|.head _) p,J⟩
 fok:=λz=>by obtain⟨N,b,o,p,J,O⟩:=z;exact fm b N p<|by rw[J];simp
 item:=λ{i x σ s R E} hx m Z ⟨N,b,w⟩ e=>by
  obtain⟨D,n,P,g⟩:=m.list Z;obtain⟨v,e1,u⟩:=g.get i x hx;refine wpAny_pyNext_list_item w ⟨_,P,rfl,n,rfl⟩ (x:=v) (by simpa using e1) λh' H B=> ?_;obtain⟨L,f,j,w3⟩:=id w;have q:=fm b N f (by rw[j];simp);have mv:Mv (· ∈ [I]) s.heap h':=gG B.extBut;refine e v _ λK r T=> ?_;obtain⟨o2,Y,d,w6⟩:=id H;exact fE Y d (by decide)<|T _ (u.mv mv q) (m.mv mv q<|gE N) mv ⟨N,b,H⟩ ⟨rfl,rfl⟩
 done:=λ{σ s R E} m Z ⟨N,b,w⟩ e=>by
  obtain⟨D,n,P,g⟩:=m.list Z;have M:D.size=l.length:=by simpa using g.length
  refine wpAny_pyNext_list_end U w ⟨_,P,rfl,n,rfl⟩ (by simp[M]) λh' c=> ?_;obtain⟨L,f,j,w3⟩:=w;exact e _ (m.mv (gG c) (fm b N f<|by rw[j];simp)<|gE N) (gG c) ⟨rfl,rfl⟩
 self:=λz e=>by obtain⟨o0,o0,w⟩:=z;exact wpAny_pyIter_listiter w e
theorem Src.tuple(U:A.handled=Jb)(t:Jl)(I a:Jg)(l:List PV):
  Src C A t I [I] l (λσ=>True) (λi σ h=>σ I=Jb/\C.B.get? I=Jb/\h.IsTupleIter I a i/\VR C σ h (.tup l) (.ref a)) where
 hdn:=U
 step:=λz X hS=>by
  obtain⟨N,b,⟨o,p,J,O⟩,hv⟩:=z;obtain⟨G,o',y,V⟩:=X.keep _ o p N;have k:=V λx=>absurd x<|hS _ (.head _);exact⟨G,b,⟨o',y,k.1.trans J,k.2.2.1.trans O⟩,hv.step X⟩
 mv:=λz mv f W=>by obtain⟨N,b,⟨o,p,J⟩,hv⟩:=z;exact⟨N,b,⟨o,mv _ o (W _<|.head _) p,J⟩,hv.mv mv f⟩
 fok:=λz=>by obtain⟨N,b,⟨o,p,J,O⟩,o0⟩:=z;exact fm b N p<|by rw[J];simp
 item:=λ{i x σ s R E} hx m hc ⟨N,b,w,hv⟩ e=>by
  have u:=hv;obtain⟨S,n,D,T,Q,P,g⟩:=u;cases T;obtain⟨v,T,e2⟩:=g.get i x hx;refine wpAny_pyNext_tuple_item w ⟨_,P,rfl,n,rfl⟩ (x:=v) (by simpa using T) λh' H B=> ?_;obtain⟨L,Z,j,w3⟩:=id w;have f:=fm b N Z (by rw[j];simp);have mv:Mv (· ∈ [I]) s.heap h':=gG B.extBut;refine e v _ λK r M=> ?_;obtain⟨o2,Y,d,w6⟩:=id H;exact fE Y d (by decide)<|M _ (e2.mv mv f) (m.mv mv f<|gE N) mv ⟨N,b,H,hv.mv mv f⟩ ⟨rfl,rfl⟩
 done:=λ{σ s R E} m hc ⟨N,b,w,hv⟩ e=>by
  obtain⟨S,n,D,T,Q,P,g⟩:=hv;cases T;have q:D.size=l.length:=by simpa using g.length
  refine wpAny_pyNext_tuple_end U w ⟨_,P,rfl,n,rfl⟩ (by simp[q]) λh' c=> ?_;obtain⟨L,Z,j,w3⟩:=w;exact e _ (m.mv (gG c) (fm b N Z<|by rw[j];simp)<|gE N) (gG c) ⟨rfl,rfl⟩
 self:=λz e=>by obtain⟨o0,o0,w,o0⟩:=z;exact wpAny_pyIter_tupleiter w e
theorem Src.range(U:A.handled=Jb)(t:Jl)(I:Jg)(n:Nat):
  Src C A t I [I] ((Qc n).map λ(i:Nat)=> .int i) (λσ=>True) (λi σ h=>σ I=Jb/\C.B.get? I=Jb/\i<=n/\IsRangeIter h I i (n-i) 1) where
 hdn:=U
 step:=λz X S=>by
  obtain⟨N,b,T,p⟩:=z;obtain⟨P,o,k,y⟩:=X.keep _ _ p N;have a:=y λx=>absurd x<|S _ (.head _);rw[a.eq (by simp)] at k;exact⟨P,b,T,k⟩
 mv:=λz mv f j=>by obtain⟨N,b,T,p⟩:=z;exact⟨N,b,T,mv _ _ (j _<|.head _) p⟩
 fok:=λz=>by obtain⟨N,b,T,p⟩:=z;exact fm b N p<|by simp
 item:=λ{i x σ s R E} hx m Z ⟨N,b,T,w⟩ e=>by
  have V:i<n:=by
   rcases Nat.lt_or_ge i n with q|q
   ·exact q
   ·exact ns<|(KZ<|by simp;exact q).symm.trans hx
  have ex:x= .int i:=by
   rw[Qu,Wu V] at hx;simpa using hx.symm
  subst ex;refine wpAny_pyNext_range_item w (by exact Int.sub_pos_of_lt<|Kf.mpr V) λh' l B=> ?_;have f:=fm b N w (by simp);have mv:Mv (· ∈ [I]) s.heap h':=gG B.extBut;refine e _ _ λK r H=> ?_;refine fE l rfl (by decide)<|H _ ⟨_,rfl⟩ (m.mv mv f<|gE N) mv ⟨N,b,V,?_⟩ ⟨rfl,rfl⟩;have:((n:Int)-(i:Int)-1)=(n:Int)-((i+1:Nat):Int):=by exact WV _ _ _
  rw[this] at l;exact l
 done:=λ{σ s R E} m Z ⟨N,b,T,w⟩ e=>by
  refine wpAny_pyNext_range_end U w (by simp) λh' c=> ?_;exact e _ (m.mv (gG c) (fm b N w<|by simp)<|gE N) (gG c) ⟨rfl,rfl⟩
 self:=λz e=>by obtain⟨o0,o0,o0,w⟩:=z;exact wpAny_pyIter_rangeiter w e
theorem lm0{c z a b d:Jg}(q:c=z):c∈ [z,a,b,d]:=q▸ .head _
theorem lm1{c z a b d:Jg}(q:c=a):c∈ [z,a,b,d]:=q▸ .tail _ (.head _)
theorem lm2{c z a b d:Jg}(q:c=b):c∈ [z,a,b,d]:=q▸ .tail _ (.tail _<|.head _)
theorem lm3{c z a b d:Jg}(q:c=d):c∈ [z,a,b,d]:=q▸ .tail _ (.tail _<|.tail _ (.head _))
theorem lm4{P:Jg->Prop}{z a b d:Jg}(hz:P z)(T:P a)(R:P b)(v:P d)(h:c∈ [z,a,b,d]):P c:=by
 rcases Qt.mp h with rfl|h
 ·exact hz
 rcases Qt.mp h with rfl|h
 ·exact T
 rcases Qt.mp h with rfl|h
 ·exact R
 rcases Qt.mp h with rfl|h
 ·exact v
 ·cases h
theorem xx{z I T S W H K:Jg}{s:Je}{Q:Fin->Je->Prop}{E:Jf->Je->Prop}(u:A.handled=Jb)(D:ZipApart z I T S W H K)
  (hz:IsZip s.heap z I T .none)(d:YR s.heap I (.ref S) (.ref W))(L:YR s.heap T a b)(r:s.heap.IsListIter S H P)(h2:s.heap.IsListIter W K X)(Z:s.heap.IsList H xs)(N:s.heap.IsList K ys)
  (n:xs[P]? =Jb\/ys[X]? =Jb)
  (hE:∀h' e,Mv (· ∈ [z,T,S,W]) s.heap h'->(∃x y,YR h' T x y)->(∃o,h'.get? e=Ja o/\o.cls= .type "StopIteration")->E (.ref e) {s with heap:=h'}):
  Jh (Mo C) A (Builtin.«zip.__next__» ⟨[.ref z],[]⟩) Q E s:=by
 have fin:∀ (p:Ji) (e:Jg) (x y:Jf),IsZip p z I T .ellipsis->Mv (· ∈ [z,T,S,W]) s.heap p->YR p T x y->(∃o,p.get? e=Ja o/\o.cls= .type "StopIteration")->∀ (g:Je),g={s with heap:=p}->
   Jh (Mo C) A (setField (.ref z) 0 .none) (λo0 s3=>E (.ref e) s3) E g:=λp e x y j mv t z' g es=>by
  obtain⟨oe,Y,M⟩:=z';subst es;have v:e≠z:=λw=>by subst w;obtain rfl:=sj<|j.symm.trans Y;simp at M
  refine wpAny_setField_rec j (by simp) λG o0 B=>hE G e (λc o f w=>B.extBut _ _ (λq=>f<|lm0 q)<|mv c o f w) ⟨x,y,B.extBut _ _ D.TOz t⟩ ⟨oe,B.extBut _ _ v Y,M⟩
 show Jh _ _ (field (.ref z) 2>>=_) _ _ _;refine YD<|YG hz rfl (x:= .bool Jd) rfl ?_;show Jh _ _ (field (.ref z) 3>>=_) _ _ _;refine YD<|YG hz rfl (x:= .ref I) rfl ?_;refine YD<|wpAny_seqItems d rfl ?_;show Jh _ _ (Builtin.SmallTypes.ownedTupleIsFree (.ref z)>>=_) _ _ _;refine YD ?_;unfold Builtin.SmallTypes.ownedTupleIsFree;refine YD<|YG hz rfl (x:= .none) rfl (YE ?_);refine wy rfl<|YD (wpAny_rule<|YD (YG hz rfl (x:= .ref T) rfl<|YD (wpAny_setField_rec hz (by simp) λV U i=> ?_)));have U:IsZip V z I T .ellipsis:=U;have m:Mv (· ∈ [z,T,S,W]) s.heap V:=λc o f w=>i.extBut _ _ (λq=>f<|lm0 q) w;have J:YR V T a b:=i.extBut _ _ D.TOz L;refine YD ?_;refine YD<|YD (wpAny_onRaise ?_)
 induction hx:xs[P]? with
 |none=>
  refine YD (wpAny_nextOf_list_end u (r.extBut i.extBut D.i1z) (Z.extBut i.extBut D.l1z) hx λp e l O=> ?_);exact fin p e a b (l _ _ D.i1z.symm U) (λc o f w=>l _ _ (λq=>f<|lm2 q)<|m c o f w) (l _ _ D.TOi1 J) O _ rfl
 |some x=>
  have hy:ys[X]? =Jb:=n.resolve_left (by rw[hx];exact λq=>by exact sn q);refine YD (wpAny_nextOf_list_item (r.extBut i.extBut D.i1z) (Z.extBut i.extBut D.l1z) hx λp o0 l=>YE ?_);have t:YR p T a b:=l.extBut _ _ D.TOi1 J;refine YD<|wpAny_seqItems t rfl (YD<|wpAny_updateSeq_pair t λG t3 B=>YD<|wpAny_letGo (YE ?_));refine YD<|YD (wpAny_onRaise ?_);show Jh _ _ (Builtin.SmallTypes.nextOf (.ref W)>>=_) _ _ _;refine YD (wpAny_nextOf_list_end u (((h2.extBut i.extBut D.i2z).extBut l.extBut D.i12.symm).extBut B.extBut D.TOi2.symm) (((N.extBut i.extBut D.l2z).extBut l.extBut D.l2i1).extBut B.extBut D.l2TO) hy λR e k O=> ?_);exact fin R e x b (k _ _ D.i2z.symm<|B.extBut _ _ D.TOz.symm (l.extBut _ _ D.i1z.symm U)) (λc o f w=>k _ _ (λq=>f<|lm3 q)<|B.extBut _ _ (λq=>f<|lm1 q) (l.extBut _ _ (λq=>f<|lm2 q)<|m c o f w)) (k _ _ D.TOi2 t3) O _ rfl
theorem th{s:Je}{Q:Option Jf->Je->Prop}{E:Jf->Je->Prop}(f:A.handled=Jb)(D:ZipApart z R O i W l K)
  (hz:IsZip s.heap z R O .none)(I:YR s.heap R (.ref i) (.ref W))(L:YR s.heap O a b)(N:s.heap.IsListIter i l k)(p:s.heap.IsListIter W K X)(B:s.heap.IsList l xs)(U:s.heap.IsList K ys)
  (n:xs[k]? =Jb\/ys[X]? =Jb)(j:∀h',Mv (· ∈ [z,O,i,W]) s.heap h'->(∃x y,YR h' O x y)->Q Jb {s with heap:=h'}):Jh (Mo C) A (pyNext<|.ref z) Q E s:=by
 have Y:s.TypeIs (.ref z) "zip":=⟨_,hz,rfl⟩
 unfold pyNext;refine YD (wpAny_attempt (JC (name:=Qb "__next__") Y F.slot_zip_next
  (YJ F.slot_zip_next Y F.entry_zip_next (xx f D hz I L N p B U n λh' e q t c=> ?_) (F.args_zip_next_1 _))))
 obtain⟨o,d,Z⟩:=c;exact YD<|wpAny_isInstance (T:="StopIteration") (b:=Jc) ⟨o,d,Z⟩ isSubtype_stop (YE<|j _ q t)
structure ZipAt(C:Cx)(z TI TO i1 i2 l1 l2:Jg)(i:Nat)(σ:PH)(h:Ji):Prop where
 ap:ZipApart z TI TO i1 i2 l1 l2
 nz:σ z=Jb
 n1:σ i1=Jb
 n2:σ i2=Jb
 nTI:σ TI=Jb
 nTO:σ TO=Ja .hid
 bz:C.B.get? z=Jb
 b1:C.B.get? i1=Jb
 b2:C.B.get? i2=Jb
 bO:C.B.get? TO=Jb
 isZ:IsZip h z TI TO .none
 isTI:YR h TI (.ref i1) (.ref i2)
 it1:h.IsListIter i1 l1 i
 it2:h.IsListIter i2 l2 i
theorem ZipAt.fok(x:ZipAt C z I T w W l K i σ h):Fok C σ h (· ∈ [z,T,w,W]):=λc Z=>by
 obtain⟨o,p,e,o0⟩:=x.it1;obtain⟨R,L,f,o0⟩:=x.it2;exact lm4 (P:=λc=>C.B.get? c=Jb/\((σ c=Jb/\∀v n,h.get? c≠Ja (tupO v n))\/σ c=Ja .hid)) ⟨x.bz,.inl ⟨x.nz,gx x.isZ<|by simp⟩⟩ ⟨x.bO,.inr x.nTO⟩ ⟨x.b1,.inl ⟨x.n1,gx p<|by rw[e];simp⟩⟩ ⟨x.b2,.inl ⟨x.n2,gx L<|by rw[f];simp⟩⟩ Z
theorem xg{l m:List PV}{i:Nat}{x:PV}(h:((l.zip m).map λp=>PV.tup [p.1,p.2])[i]? =Ja x):X2 λp q=>A3 (l[i]? =Ja p) (m[i]? =Ja q) (x= .tup [p,q]):=by
 rw[Qu] at h;obtain⟨⟨p,q⟩,N,rfl⟩:=Qs.mp h;obtain⟨Y,J⟩:=WT.mp N;exact⟨p,q,Y,J,rfl⟩
theorem Src.zip(U:A.handled=Jb)(N:List Jl)(tk:Nat)(pos:Pos)(z H T j W O J:Jg)(l m:List PV):
  Src C A (.Tuple N tk pos) z [z,T,j,W] ((l.zip m).map λp=> .tup [p.1,p.2]) (λσ=>σ O=Ja (.list l)/\σ J=Ja (.list m)) (λi σ h=>ZipAt C z H T j W O J i σ h) where
 hdn:=U
 step:=λ{i S σ h ab h'} x t hS=>by
  have kp:∀c o,h.get? c=Ja o->σ c=Jb->¬S c\/isSeq o->(∀es n,o.data≠ .dict es n)->ab c=Jb/\h'.get? c=Ja o:=λc o e n ns nd=>by
   obtain⟨k1,o',k2,k3⟩:=t.keep c o e n;rw[(k3 λq=>ns.resolve_left λw=>w q).eq nd] at k2;exact⟨k1,k2⟩
  obtain⟨v,L,c1,d1⟩:=x.it1;obtain⟨u,g,V,d2⟩:=x.it2;have qz:=kp z _ x.isZ x.nz (.inl<|hS z (lm0 rfl)) (by simp);have qt:=kp H _ x.isTI x.nTI (.inr ⟨_,_,rfl⟩) (by simp);have q1:=kp j _ L x.n1 (.inl<|hS j (lm2 rfl)) (by rw[d1];simp);have q2:=kp W _ g x.n2 (.inl<|hS W (lm3 rfl)) (by rw[d2];simp);exact⟨x.ap,qz.1,q1.1,q2.1,qt.1,t.fix _ _ x.nTO rfl,x.bz,x.b1,x.b2,x.bO,qz.2,qt.2,⟨v,q1.2,c1,d1⟩,⟨u,q2.2,V,d2⟩⟩
 mv:=λ{i F σ h h'} x mv fo d=>by
  have aa:¬F H:=λq=>by
   rcases (fo H q).2 with⟨o0,w⟩|w
   ·exact w _ _ x.isTI
   ·exact ns<|x.nTI.symm.trans w
  obtain⟨v,L,c1⟩:=x.it1;obtain⟨u,g,V⟩:=x.it2;exact⟨x.ap,x.nz,x.n1,x.n2,x.nTI,x.nTO,x.bz,x.b1,x.b2,x.bO,mv _ _ (d z<|lm0 rfl) x.isZ,mv _ _ aa x.isTI,⟨v,mv _ _ (d j<|lm2 rfl) L,c1⟩,⟨u,mv _ _ (d W<|lm3 rfl) g,V⟩⟩
 fok:=λx=>x.fok
 item:=λ{i x σ s R Er} hx k Z t X=>by
  obtain⟨p,q,hp,hq,rfl⟩:=xg hx;obtain⟨I,n1,Y,E⟩:=k.list Z.1;obtain⟨Q,n2,g3,B⟩:=k.list Z.2;obtain⟨v1,L,r1⟩:=E.get i p hp;obtain⟨r,g,r2⟩:=B.get i q hq;obtain⟨ob,w1,a0,b0,rfl⟩:=k.objs T _ t.nTO;refine wpAny_pyNext_zip_item t.ap t.isZ t.isTI w1 t.it1 t.it2 ⟨_,Y,rfl,n1,rfl⟩ ⟨_,g3,rfl,n2,rfl⟩ (x:=v1) (y:=r) (by simpa using L) (by simpa using g) λh' y1 y2 y3 y4 y5 y6 y7=> ?_;refine X _ _ λK ac hK=> ?_;refine wpAny_letOwnedTupleGo_zip y1 λh2 z2 G=> ?_;have D:=t.ap;have M:s.heap.objs.size≠z:=KQ<|QJ t.isZ;have mv:Mv (· ∈ [z,T,j,W]) s.heap h2:=λc o f w=>G.extBut _ _ (λq=>f<|lm0 q)<|y7 c o (λq=>f<|lm0 q) (λq=>f<|lm1 q) (λq=>f<|lm2 q) (λq=>f<|lm3 q) w;have m2:Sim C σ h2:=k.mv mv t.fok λc Z=>lm4 (P:=λc=>σ c=Ja .hid->∃a b,h2.get? c=Ja (tupO #[a,b] 0)) (λU=>ns<|t.nz.symm.trans U) (λo0=>⟨_,_,G.extBut _ _ D.TOz y2⟩) (λU=>ns<|t.n1.symm.trans U) (λU=>ns<|t.n2.symm.trans U) Z;obtain⟨v,f1,f2⟩:=y3;obtain⟨u,f3,f4⟩:=y4;refine hK _ ⟨s.heap.objs.size,0,#[v1,r],rfl,k.fresh<|QA _,G.extBut _ _ M y5,v1,[r],rfl,r1.mv mv t.fok,r,[],rfl,r2.mv mv t.fok,rfl⟩ m2 mv
   ⟨D,t.nz,t.n1,t.n2,t.nTI,t.nTO,t.bz,t.b1,t.b2,t.bO,z2,G.extBut _ _ D.TIz<|y7 _ _ D.TIz D.TITO D.TIi1 D.TIi2 t.isTI,⟨v,G.extBut _ _ D.i1z f1,f2⟩,⟨u,G.extBut _ _ D.i2z f3,f4⟩⟩ ⟨rfl,rfl⟩
 done:=λ{σ s R Er} k Z t X=>by
  obtain⟨I,n1,Y,E⟩:=k.list Z.1;obtain⟨Q,n2,g3,B⟩:=k.list Z.2;obtain⟨ob,w1,a0,b0,rfl⟩:=k.objs T _ t.nTO;have O:I.size=l.length:=E.length;have J:Q.size=m.length:=B.length;refine th U t.ap t.isZ t.isTI w1 t.it1 t.it2 ⟨_,Y,rfl,n1,rfl⟩ ⟨_,g3,rfl,n2,rfl⟩ ?_ λh' mv tp=> ?_
  ·simp only[Qd,List.length_zip]
   rcases Nat.le_total l.length m.length with q|q
   ·exact .inl<|Wk (by exact Nat.le_min.mpr ⟨QT O,zle (QT O) q⟩)
   ·exact .inr<|Wk (by exact Nat.le_min.mpr ⟨zle (QT J) q,QT J⟩)
  ·exact X _ (k.mv mv t.fok λc Z=>lm4 (P:=λc=>σ c=Ja .hid->∃a b,h'.get? c=Ja (tupO #[a,b] 0)) (λU=>ns<|t.nz.symm.trans U) (λo0=>tp) (λU=>ns<|t.n1.symm.trans U) (λU=>ns<|t.n2.symm.trans U) Z) mv ⟨rfl,rfl⟩
 self:=λt X=>wpAny_pyIter_zip t.isZ X
def pC(t:Jl):Prop:=X3 λe k p=>t= .Tuple e k p
def t6(C:Cx)(A:Jj)(k:IK)(v:List Jf)(R Er:Jf->Je->Prop)(s:Je):Prop:=
 match k with
 | .val=>Jh (Mo C) A (YN<|v.headD .none) R Er s
 | .range=>Jh (Mo C) A (call (.type "range") v) (λx W=>Jh (Mo C) A (YN x) R Er W) Er s
 | .zip=>Jh (Mo C) A (call (.type "zip") v) (λx W=>Jh (Mo C) A (YN x) R Er W) Er s
def m8(C:Cx)(k:IK):Prop:=∀ (A:Jj) (t:Jl) (w:List PV) (v:List Jf) (σ:PH) (s:Je) (K:List PV->(PH->Prop)->PH->Prop) (R E:Jf->Je->Prop),
 A.handled=Jb->(k= .zip->pC t)->VRs C σ s.heap w v->Sim C σ s.heap->src k w σ (λx c=>x.length<=lim/\whid k σ λm=>K x c m)->
 (∀x c I f S m W,Src C A t I f x c S->S 0 m W.heap->Sim C m W.heap->Step none1 σ s.heap m W.heap->Rest s W->(∀b∈f,s.heap.get? b=Jb/\b<W.heap.objs.size)->x.length<=lim->K x c m->R (.ref I) W)->
 t6 C A k v R E s
theorem gq(h:Ji)(e:h.objs.size<=a):h.get? a=Jb:=by
 induction q:h.get? a with
 |none=>rfl
 |some o=>exact absurd (QJ q)<|Kc.mpr e
theorem wQ{K:List PV->(PH->Prop)->Prop}(s:src .val vs σ K):(X2 λa l=>A3 (vs=[.ref a]) (σ a=Ja (.list l)) (K l λσ'=>σ' a=Ja (.list l)))\/(∃l,vs=[.tup l]/\K l λo0=>True):=by
 rcases vs with o0|⟨p,o0|⟨o0,o0⟩⟩
 ·exact s.elim
 ·rcases p with o0|o0|o0|o0|l|a|o0<;>first|exact s.elim|exact .inr ⟨l,rfl,s⟩|skip
  obtain⟨o0,l,e,T,w⟩:=fY (show onL σ (λl=>K l λσ'=>σ' a=Ja (.list l)) (.ref a) from s);cases e;exact .inl ⟨a,l,rfl,T,w⟩
 ·rcases p with⟨⟩<;>exact s.elim
theorem l8{h:Ji}{i:Ji}(n:i.objs.size<=h.objs.size)(R:b∈ [h.objs.size]):i.get? b=Jb/\b<(h.push o).objs.size:=by
 rw[Qk] at R;subst R;exact⟨gq _ n,by rw[KL];exact QI _⟩
theorem tE:m8 C .val:=by
 intro A t J H σ s K R E U _ hv m G X;show Jh (Mo C) A (YN<|H.headD .none) R E s
 rcases wQ G with⟨a,l,rfl,e,w⟩|⟨l,rfl,w⟩
 ·obtain⟨v,rfl,d⟩:=hv.one;rw[show v= .ref a from d];obtain⟨J,n,g,c⟩:=m.list e;refine wpAny_pyIter_list ⟨_,g,rfl,n,rfl⟩ ?_;exact X _ _ s.heap.objs.size _ _ σ _ (Src.list U t _ a l) ⟨m.fresh<|QA _,m.freshB<|QA _,⟨_,QN _ rfl,rfl,rfl⟩⟩ (m.push _) (.push _ _ _ _) ⟨rfl,rfl⟩ (λb o=>l8 (QA _) o) w.1 w.2
 ·obtain⟨v,rfl,d⟩:=hv.one;have hv:=d;obtain⟨a,n,J,rfl,I,g,c⟩:=d;refine wpAny_pyIter_tuple ⟨_,g,rfl,n,rfl⟩ ?_;exact X _ _ s.heap.objs.size _ _ σ _ (Src.tuple U t _ a l) ⟨m.fresh<|QA _,m.freshB<|QA _,⟨_,QN _ rfl,rfl,rfl⟩,hv.step<|.push none1 _ _ _⟩ (m.push _) (.push _ _ _ _) ⟨rfl,rfl⟩ (λb o=>l8 (QA _) o) w.1 w.2
theorem pX:m8 C .range:=by
 intro A t w a σ s K R r U _ hv m E X;show Jh (Mo C) A (call (.type "range") a) (λx W=>Jh (Mo C) A (YN x) R r W) r s
 match w,E with
 |[p],E=>
  obtain⟨n,rfl,g,l,H⟩:=d9 (show onInt (λn=> -1000000<n/\((Qc n.toNat).map λ(i:Nat)=>PV.int i).length<=lim/\K ((Qc n.toNat).map λ(i:Nat)=>PV.int i) (λo0=>True) σ) p from E);obtain⟨v,rfl,tk,rfl⟩:=hv.one;have T:n<=1000000:=by
   simp only[Qd,QB,lim] at l;exact Int.toNat_le.mp l
  have z:Builtin.Range.rangeSize 0 n 1=(n.toNat:Int):=by rw[rangeSize_one 0 n];exact zrs n
  refine call_range_1 ?_;refine wpAny_pyIter_range (IsRange.new ..) (small_one (by decide) (by decide) (by exact QP (by decide)<|Yy g)<|by exact Int.lt_of_le_of_lt T<|by decide) ?_;rw[z];have c:=m.push {cls:= .type "range",data:= .fields #[.int 0 s.toks,.int n tk,.int 1 (s.toks+1)]};refine X _ _ _ _ _ σ _ (Src.range U t _ n.toNat) ⟨c.fresh<|QA _,c.freshB<|QA _,QV _,?_⟩ (c.push _) ((Step.push _ _ _ _).trans (.push _ _ _ _)) ⟨rfl,rfl⟩ (λb k=>l8 (by rw[KL];exact WD _) k) l H;have e:=QN (s.heap.push {cls:= .type "range",data:= .fields #[.int 0 s.toks,.int n tk,.int 1 (s.toks+1)]}) (o:={cls:= .type "range_iterator",data:= .fields #[Jx 0,Jx n.toNat,Jx 1]}) rfl
  simpa using e
theorem wh{K:List PV->(PH->Prop)->Prop}(s:src .zip vs σ K):X4 λa b l m=>A4 (vs=[.ref a,.ref b]) (σ a=Ja (.list l)) (σ b=Ja (.list m)) (K ((l.zip m).map λp=> .tup [p.1,p.2]) λσ'=>σ' a=Ja (.list l)/\σ' b=Ja (.list m)):=by
 rcases vs with o0|⟨p,o0|⟨q,o0|⟨o0,o0⟩⟩⟩
 ·exact s.elim
 ·rcases p with⟨⟩<;>exact s.elim
 ·rcases p with o0|o0|o0|o0|o0|a|o0<;>first|exact s.elim|skip
  rcases q with o0|o0|o0|o0|o0|b|o0<;>first|exact s.elim|skip
  obtain⟨o0,l,e,T,w⟩:=fY (show onL σ (λl=>onL σ (λm=>K ((l.zip m).map λp=> .tup [p.1,p.2]) λσ'=>σ' a=Ja (.list l)/\σ' b=Ja (.list m))<|.ref b) (.ref a) from s);cases e;obtain⟨o0,m,e,j,w⟩:=fY w;cases e;exact⟨a,b,l,m,rfl,T,j,w⟩
 ·rcases p with⟨⟩<;>first|exact s.elim|(rcases q with⟨⟩<;>exact s.elim)
theorem uq(n a b:Nat)(T:a<n)(R:b<n):ZipApart (n+4) (n+2) (n+3) n (n+1) a b:=by
 constructor<;>(show(_:Nat)≠(_:Nat);first|exact KQ (Yo _ T)|exact KU (Yo _ T)|exact KU (Yo _ R)|exact KU T|exact KU R|exact KQ T|exact KQ R|exact KQ (Yo _ R)|exact KU (Yb<|by decide)|exact KQ (Yb<|by decide)|exact λq=>absurd (Nat.add_left_cancel q)<|by decide)
theorem tI:m8 C .zip:=by
 intro A t vs v σ s K R W T ht hv m hs P;show Jh (Mo C) A (call (.type "zip") v) (λx O=>Jh (Mo C) A (YN x) R W O) W s;obtain⟨N,tk,p,rfl⟩:=ht rfl;obtain⟨a,b,l,k,rfl,e1,e2,w⟩:=wh hs;obtain⟨J,v2,rfl,u,z⟩:=hv.two;rw[show J= .ref a from u,show v2= .ref b from z];obtain⟨S,i,g,g2⟩:=m.list e1;obtain⟨Q,n2,H,g4⟩:=m.list e2;have G:=QJ g;have L:=QJ H;refine call_zip_2 ⟨_,g,rfl,i,rfl⟩ ⟨_,H,rfl,n2,rfl⟩ λh' U z2 D B d I M=> ?_;refine wpAny_pyIter_zip U ?_;have r:∀c,s.heap.objs.size<=c->σ c=Jb:=λc q=>m.fresh q;have f:∀c,s.heap.objs.size<=c->C.B.get? c=Jb:=λc q=>m.freshB q;have X:Step none1 σ s.heap (σ.set (s.heap.objs.size+3) .hid) h':=(Step.more M).add .hid (gq _<|QO _ _) (r _<|QO _ _);have V:Sim C (σ.set (s.heap.objs.size+3) .hid) h':=m.add X (λx o' e=>by obtain⟨o1,Y,o0⟩:=m.objs x o' e;exact(M _ _ Y).trans Y.symm) (λb o e=>M b o<|m.base b o e) D (f _<|QO _ _) ⟨_,_,rfl⟩ trivial;have n:∀c:Nat,c≠3->(σ.set (s.heap.objs.size+3) .hid) (s.heap.objs.size+c)=Jb:=λc q=>by
  rw[PH.set_ne _ _ λw=>q (Nat.add_left_cancel w)];exact r _<|QO _ _
 refine P _ _ _ _ _ _ _ (Src.zip T N tk p (s.heap.objs.size+4) (s.heap.objs.size+2) (s.heap.objs.size+3) s.heap.objs.size (s.heap.objs.size+1) a b l k)
  ⟨uq _ _ _ G L,n 4<|by decide,(by have:=n 0 (by decide);simpa using this),n 1<|by decide,n 2<|by decide,PH.set_same _ _ _,f _<|QO _ _,f _<|QA _,f _<|QO _ _,f _<|QO _ _,U,z2,B,d⟩ V X ⟨rfl,rfl⟩ (λc Z=> ?_) w.1 (w.2 _<|r _ (QO _ _))
 have E:∃k:Nat,k<5/\c=s.heap.objs.size+k:=by
  simp only[Qt,Kl,or_false] at Z
  rcases Z with rfl|rfl|rfl|rfl
  ·exact⟨4,by decide,rfl⟩
  ·exact⟨3,by decide,rfl⟩
  ·exact⟨0,by decide,rfl⟩
  ·exact⟨1,by decide,rfl⟩
 obtain⟨j,y,rfl⟩:=E;exact⟨gq _<|QO _ _,by show _<h'.objs.size;rw[I];exact Nat.add_lt_add_left y _⟩
end
end
theorem Rho.get_put:∀ {ρ:Rho} {y:String} {q:PV},(ρ.put x v).get y=Ja q->(y=x/\q=v)\/(y≠x/\ρ.get y=Ja q):=λ{ρ} y q=>by
 induction ρ with
 |nil=>exact λh=>ns h
 |cons p r i=>
  obtain⟨z,o⟩:=p;intro h;rw[Rho.put_c] at h;rw[Rho.get_c];by_cases T:z=x
  ·rw[Y8 T,Rho.get_c] at h;by_cases W:z=y
   ·rw[Y8 W] at h;exact .inl ⟨W.symm.trans T,(sj h).symm⟩
   ·rw[Y7 W] at h;rw[Y7 W];exact .inr ⟨λe=>W<|T.trans e.symm,h⟩
  ·rw[Y7 T,Rho.get_c] at h;by_cases W:z=y
   ·rw[Y8 W] at h ⊢;exact .inr ⟨λe=>T<|W.trans e,h⟩
   ·rw[Y7 W] at h ⊢;exact i h
theorem Rho.get_put_ne:∀ {ρ:Rho} {y:String},y≠x->(ρ.put x v).get y=ρ.get y:=λ{ρ} y h=>by
 induction ρ with
 |nil=>rfl
 |cons p r i=>
  obtain⟨z,o⟩:=p;rw[Rho.put_c,Rho.get_c];by_cases T:z=x
  ·rw[Y8 T,Rho.get_c,Y7 λe=>h<|e.symm.trans T,Y7 λe=>h (e.symm.trans T)]
  ·rw[Y7 T,Rho.get_c,i]
theorem Rho.get_puts_ne:∀ {xs:List String} {vs:List PV} {ρ:Rho} {y:String},y∉xs->(ρ.puts xs vs).get y=ρ.get y
 |[],vs=>λh=>rfl
 |x::xs,[]=>λh=>rfl
 |x::xs,v::vs=>λh=>by
  show(Rho.puts (Rho.put _ x v) xs vs).get _=_;rw[Rho.get_puts_ne (λe=>h<|Kz _ e),Rho.get_put_ne (by rintro rfl;exact h Wb)]
theorem jA{tg:Tg}{ρ:Rho}(h:(blank tg ρ).get y=Ja q):y≠".0"/\y∉tg.names/\ρ.get y=Ja q:=by
 have h:(if ".0"=y then Jb else Rho.get ((tg.names.map λx=>(x,Jb))++ρ) y)=Ja q:=h;by_cases i:".0"=y
 ·exact ns<|(Y8 i).symm.trans h
 rw[Y7 i] at h;refine⟨λe=>i e.symm,?_⟩;generalize tg.names=l at h
 induction l with
 |nil=>exact⟨by simp,h⟩
 |cons x r W=>
  have h:(if x=y then Jb else Rho.get (r.map (λx=>(x,Jb))++ρ) y)=Ja q:=h;by_cases hx:x=y
  ·exact ns<|(Y8 hx).symm.trans h
  ·rw[Y7 hx] at h;obtain⟨a,b⟩:=W h;exact⟨by simp only[Qt,not_or];exact⟨λe=>hx e.symm,a⟩,b⟩
set_option tactic.hygienic true in
theorem rU{ρ ρ':Rho}(h:bindC tg v ρ=Ja ρ')(e:(blank tg ρ).get y=Ja q):ρ'.get y=Ja q:=by
 obtain⟨o0,n,o0⟩:=jA e
 induction tg with
 |name x=>
  obtain rfl:=sj (show Ja ((blank (.name x) ρ).put x v)=Ja ρ' from h);exact(Rho.get_put_ne λq=>n<|Qk.mpr q).trans e
 |tup P=>
  induction v using PV.casesOn with
  |tup w=>
   have h:(if w.length=P.length then Ja ((blank (.tup P) ρ).puts P w) else Jb)=Ja ρ':=h;by_cases l:w.length=P.length
   ·obtain rfl:=sj<|(Y8 l).symm.trans h;exact(Rho.get_puts_ne n).trans e
   ·exact ns<|(Y7 l).symm.trans h
  |_=>exact ns h
section
variable{C:Cx}{A:Jj}{Er:Jf->Je->Prop}{env:Js}{ρ:Rho}{σ:PH}{s:Je}
theorem EnvR.weak{ρ':Rho}(x:EnvR C env ρ σ h)(k:∀y q,ρ'.get y=Ja q->ρ.get y=Ja q):EnvR C env ρ' σ h:=
 ⟨x.fn,x.glob,x.blt,by obtain⟨m,a,b⟩:=x.ns;exact⟨m,a,λy p e=>b y p<|k y p e⟩,λy p e=>x.cell y p<|k y p e,x.newL,x.baseL,x.baseC,x.newC,x.apart,x.hasC⟩
noncomputable def slot(env:Js)(xs:List String):Jg->Prop:=λb=>∃x∈xs,(env.kindOf (Qb x)=Ja .local/\b=env.locals)\/(env.kindOf (Qb x)=Ja .cell/\env.cells.lookup (Qb x)=Ja b)
structure Asg(C:Cx)(env:Js)(F:Jg->Prop)(σ:PH)(h h':Ji):Prop where
 mv:Mv F h h'
 fok:Fok C σ h F
 frs:∀l,Frs C σ h l->Frs C σ h' l
 sim:Sim C σ h'
 has:∀c,F c->(∀o,h.get? c=Ja o->¬isSeq o)/\∃o,h'.get? c=Ja o/\¬isSeq o
theorem d6{o:Jp}(h:o.data= .dict es n):¬isSeq o:=λz=>by obtain⟨x,n,e⟩:=z;rw[h] at e;cases e
theorem fS{o:Jp}(h:o.data= .cell v):¬isSeq o:=λz=>by obtain⟨x,n,e⟩:=z;rw[h] at e;cases e
theorem iG{h:Ji}(e:h.get? c=Ja o)(q:¬isSeq o):∀vs n,h.get? c≠Ja (tupO vs n):=λvs n x=>by obtain rfl:=sj<|e.symm.trans x;exact q ⟨vs,n,rfl⟩
theorem p8{K:Unit->Je->Prop}(W:EnvR C env ρ σ s.heap)(m:Sim C σ s.heap)
  (hx:env.kindOf (Qb x)=Ja .local\/env.kindOf (Qb x)=Ja .cell)(hv:VR C σ s.heap p v)
  (hK:∀s',Asg C env (slot env [x]) σ s.heap s'.heap->EnvR C env (ρ.put x p) σ s'.heap->Rest s s'->K () s'):Jh (Mo C) A (storeName env (Qb x) v) K Er s:=by
 rcases hx with hx|hx
 ·obtain⟨mm,g,hm⟩:=W.ns;have hp:(env.scope.kind== .class||(env.scope.kind== .module&&env.locals !=env.globals))=Jd:=by rw[W.fn];rfl
  refine wpAny_storeName_local hx g (λR I h=> ?_) hp;have j:∀c,slot env [x] c->c=env.locals:=by
   rintro c ⟨y,Q,q|q⟩
   ·exact q.2
   ·rw[Qk] at Q;subst Q;rw[hx] at q;cases q.1
  obtain⟨o,es,ep,Y,G,o0⟩:=id g;obtain⟨O,aa,ab,J,S,o0⟩:=id I;have mv:Mv (slot env [x]) s.heap R:=λc o f e=>h.extBut c o (λq=>f ⟨x,Qk.mpr rfl,.inl ⟨hx,q⟩⟩) e;have N:Fok C σ s.heap (slot env [x]):=λc f=>by
   have:=j c f;subst this;exact⟨W.baseL,.inl ⟨W.newL,iG Y<|d6 G⟩⟩
  have i:∀c,slot env [x] c->σ c=Ja .hid->∃a b,R.get? c=Ja (tupO #[a,b] 0):=λc f q=>by
   have:=j c f;subst this;exact ns<|W.newL.symm.trans q
  refine hK _ ⟨mv,N,λl f=> ?_,m.mv mv N i,λc f=> ?_⟩ ?_ ⟨rfl,rfl⟩
  ·intro en z;obtain⟨k,L,P,B,D,T,F,X,u,V⟩:=f en z;by_cases q:L=env.locals
   ·subst q;exact⟨k,_,O,aa,ab,T,F,X,J,S⟩
   ·exact⟨k,L,P,B,D,T,F,X,h.extBut _ _ q u,V⟩
  ·have:=j c f;subst this;exact⟨λP q=>by obtain rfl:=sj<|Y.symm.trans q;exact d6 G,O,J,d6 S⟩
  ·have nc:∀y c,env.cells.lookup y=Ja c->c≠env.locals:=by
    rintro y c q rfl;obtain⟨o0,v1,P,U,H⟩:=W.newC y _ q;obtain rfl:=sj<|Y.symm.trans U;rw[G] at H;cases H
   refine⟨W.fn,W.glob,W.blt,⟨_,I,λy q T F=> ?_⟩,λy q T F=> ?_,W.newL,W.baseL,W.baseC,λy c e=> ?_,W.apart,W.hasC⟩
   ·rcases Rho.get_put T with⟨rfl,rfl⟩|⟨n,T⟩
    ·exact⟨v,Y8 rfl,hv.mv mv N⟩
    ·obtain⟨w,a,b⟩:=hm y q T F;exact⟨w,by rw[Y7 (λe=>n<|ofString_inj e)];exact a,b.mv mv N⟩
   ·rcases Rho.get_put T with⟨rfl,rfl⟩|⟨n,T⟩
    ·rw[hx] at F;rcases F with F|F<;>cases F
    ·obtain⟨c,w,a,b,d⟩:=W.cell y q T F;exact⟨c,w,a,b.sameBut h<|nc _ c a,d.mv mv N⟩
   ·obtain⟨a,w,b⟩:=W.newC y c e;exact⟨a,w,b.sameBut h<|nc _ c e⟩
 ·obtain⟨c,Z⟩:=W.hasC _<|.inl hx;obtain⟨M,ac,t⟩:=W.newC _ c Z;refine wpAny_storeName_cell W.fn hx Z t λR E h=> ?_;have j:∀d,slot env [x] d->d=c:=by
   rintro d ⟨y,Q,q|q⟩
   ·rw[Qk] at Q;subst Q;rw[hx] at q;cases q.1
   ·rw[Qk] at Q;subst Q;rw[Z] at q;obtain rfl:=sj q.2;rfl
  obtain⟨o,Y,G⟩:=id t;obtain⟨O,J,S⟩:=id E;have mv:Mv (slot env [x]) s.heap R:=λd o f e=>h.extBut d o (λq=>f ⟨x,Qk.mpr rfl,.inr ⟨hx,by rw[q];exact Z⟩⟩) e;have N:Fok C σ s.heap (slot env [x]):=λd f=>by
   have:=j d f;subst this;exact⟨W.baseC _ _ Z,.inl ⟨M,iG Y<|fS G⟩⟩
  have i:∀d,slot env [x] d->σ d=Ja .hid->∃a b,R.get? d=Ja (tupO #[a,b] 0):=λd f q=>by
   have:=j d f;subst this;exact ns<|M.symm.trans q
  refine hK _ ⟨mv,N,λl f=> ?_,m.mv mv N i,λd f=> ?_⟩ ?_ ⟨rfl,rfl⟩
  ·intro en z;obtain⟨k,L,P,B,D,T,F,X,u,V⟩:=f en z;have q:L≠c:=by rintro rfl;obtain rfl:=sj<|Y.symm.trans u;rw[G] at V;cases V
   exact⟨k,L,P,B,D,T,F,X,h.extBut _ _ q u,V⟩
  ·have:=j d f;subst this;exact⟨λP q=>by obtain rfl:=sj<|Y.symm.trans q;exact fS G,O,J,fS S⟩
  ·obtain⟨mm,g,hm⟩:=W.ns;have nl:env.locals≠c:=by
    rintro q;obtain⟨P,es,ep,U,H,o0⟩:=g;rw[q,Y] at U;obtain rfl:=sj U;rw[G] at H;cases H
   refine⟨W.fn,W.glob,W.blt,⟨mm,Ns.like g λo e=>⟨o,h.extBut _ _ nl e,.refl o⟩,λy q T F=> ?_⟩,λy q T F=> ?_,W.newL,W.baseL,W.baseC,λy d e=> ?_,W.apart,W.hasC⟩
   ·rcases Rho.get_put T with⟨rfl,rfl⟩|⟨n,T⟩
    ·rw[hx] at F;cases F
    ·obtain⟨w,a,b⟩:=hm y q T F;exact⟨w,a,b.mv mv N⟩
   ·rcases Rho.get_put T with⟨rfl,rfl⟩|⟨n,T⟩
    ·exact⟨c,v,Z,E,hv.mv mv N⟩
    ·obtain⟨d,w,a,b,r⟩:=W.cell y q T F;have:d≠c:=by rintro rfl;exact n (ofString_inj<|W.apart _ _ _ a Z)
     exact⟨d,w,a,b.sameBut h this,r.mv mv N⟩
   ·obtain⟨a,w,b⟩:=W.newC y d e;by_cases q:d=c
    ·subst q;exact⟨a,Ja v,E⟩
    ·exact⟨a,w,b.sameBut h q⟩
theorem Asg.refl{F:Jg->Prop}{h:Ji}(m:Sim C σ h)(fo:Fok C σ h F)(a:∀c,F c->∃o,h.get? c=Ja o/\¬isSeq o):Asg C env F σ h h:=
 ⟨.refl,fo,λo0 f=>f,m,λc f=>by obtain⟨o,e,q⟩:=a c f;exact⟨λP T=>by obtain rfl:=sj<|e.symm.trans T;exact q,o,e,q⟩⟩
theorem Asg.trans{F I:Jg->Prop}{h S H:Ji}(x:Asg C env F σ h S)(y:Asg C env I σ S H):Asg C env (λc=>F c\/I c) σ h H where
 mv:=λc o f e=>y.mv c o (λq=>f<|.inr q)<|x.mv c o (λq=>f<|.inl q) e
 fok:=λc f=>by
  by_cases q:F c
  ·exact x.fok c q
  ·rcases f with f|f
   ·exact absurd f q
   ·obtain⟨a,b⟩:=y.fok c f;refine⟨a,b.imp (λz=>by obtain⟨d,V⟩:=z;exact⟨d,λv n e=>V v n<|x.mv c _ q e⟩) id⟩
 frs:=λl f=>y.frs l<|x.frs l f
 sim:=y.sim
 has:=λc f=>by
  by_cases q:I c
  ·obtain⟨a,b⟩:=y.has c q;refine⟨λo e=> ?_,b⟩;by_cases Z:F c
   ·exact(x.has c Z).1 o e
   ·exact a o<|x.mv c o Z e
  ·rcases f with f|f
   ·obtain⟨a,o,e,b⟩:=x.has c f;exact⟨a,o,y.mv c o q e,b⟩
   ·exact absurd f q
theorem Asg.mono{F I:Jg->Prop}{h S:Ji}(x:Asg C env F σ h S)(k:∀c,I c↔F c):Asg C env I σ h S:=
 ⟨x.mv.mono λc f=>(k c).mpr f,λc f=>x.fok c<|(k c).mp f,x.frs,x.sim,λc f=>x.has c<|(k c).mp f⟩
theorem rO:slot env (x::xs) c↔(slot env [x] c\/slot env xs c):=by
 constructor
 ·rintro ⟨y,h,q⟩
  rcases Qt.mp h with rfl|h
  ·exact .inl ⟨y,Qk.mpr rfl,q⟩
  ·exact .inr ⟨y,h,q⟩
 ·rintro (⟨y,h,q⟩|⟨y,h,q⟩)
  ·rw[Qk] at h;subst h;exact⟨y,Wb,q⟩
  ·exact⟨y,Kz _ h,q⟩
theorem jT{K:Unit->Je->Prop}(e:EnvR C env ρ σ s.heap)(m:Sim C σ s.heap)
  (hx:env.kindOf (Qb x)=Ja .local\/env.kindOf (Qb x)=Ja .cell)(hv:VR C σ s.heap p v)
  (h:∀s',Asg C env (slot env [x]) σ s.heap s'.heap->EnvR C env (ρ.put x p) σ s'.heap->Rest s s'->K () s'):Jh (Mo C) A (assign (.Name (Qb x) pos) env v) K Er s:=
 wpAny_assign_Name (p8 e m hx hv h)
theorem pQ(h:eF sc (x::xs) (.Name y pos::es)=Jc):y=Qb x/\isOwn sc y=Jc/\eF sc xs es=Jc:=by
 have h:=Qh.mp (show((((Vl.Internal.nm y x&&isOwn sc y)&&bG y)&& !xs.contains x)&&eF sc xs es)=Jc from h);have N:=Qh.mp (Qh.mp (Qh.mp h.1).1).1;exact⟨beq_iff_eq.mp N.1,N.2,h.2⟩
theorem tM(h:mTg sc (.name x) (.Name y pos)=Jc):y=Qb x/\isOwn sc y=Jc:=by
 have h:=Qh.mp (Qh.mp (show((Vl.Internal.nm y x&&isOwn sc y)&&bG y)=Jc from h)).1;exact⟨beq_iff_eq.mp h.1,h.2⟩
theorem jo:∀ {xs:List String} {es:List Jl} {ps:List PV} {vs:List Jf} {ρ:Rho} {s:Je} {K:Unit->Je->Prop},eF sc xs es=Jc->EnvR C env ρ σ s.heap->Sim C σ s.heap->
  (∀x∈xs,env.kindOf (Qb x)=Ja .local\/env.kindOf (Qb x)=Ja .cell)->VRs C σ s.heap ps vs->ps.length=xs.length->
  (∀s',Asg C env (slot env xs) σ s.heap s'.heap->EnvR C env (ρ.puts xs ps) σ s'.heap->Rest s s'->K () s')->Jh (Mo C) A (assignInOrder ((JO es env).map (·.2)) vs) K Er s
 |[],[],ps,vs,ρ,s,K,hm,ev,m,hx,hv,hl,hK=>by
  have:ps=[]:=WZ.mp hl;subst this;change _=_ at hv;subst hv;exact YE<|hK s (.refl m (λc z'=>by obtain⟨y,hy,o0⟩:=z';cases hy) (λc z'=>by obtain⟨y,hy,_⟩:=z';cases hy)) ev ⟨rfl,rfl⟩
 |[],_::_,_,_,_,_,_,hm,_,_,_,_,_,_=>by exact ft hm
 |x::xs,[],_,_,_,_,_,hm,_,_,_,_,_,_=>by exact ft hm
 |x::xs,e::es,ps,vs,ρ,s,K,hm,ev,m,hx,hv,hl,hK=>by
  induction e using Expr.casesOn with
  |Name y pos=>
   obtain⟨rfl,o0,hm⟩:=pQ hm
   induction ps using List.casesOn with
   |nil=>simp at hl
   |cons p ps=>
    obtain⟨v,r,rfl,hv,hr⟩:=hv;show Jh _ _ (holding r (assign _ env v)>>=λo0=>assignInOrder ((JO es env).map (·.2)) r) K Er s;refine YD<|YH (jT ev m (hx x Wb) hv λs1 a1 ev1 r1=> ?_);refine jo hm ev1 a1.sim (λy hy=>hx y<|Kz _ hy) (hr.mv a1.mv a1.fok) (by simpa using hl) λs2 a2 ev2 r2=> ?_;exact hK s2 ((a1.trans a2).mono λc=>rO) ev2<|r1.trans r2
  |_=>first|exact bnx hm|exact onx hm|cases hm
theorem kC:∀ {xs:List String} {es:List Jl},eF sc xs es=Jc->(JO es env).length=xs.length/\(JO es env).findIdx? (·.1)=Jb
 |[],[]=>λo0=>⟨rfl,rfl⟩
 |[],_::_=>λhm=>by exact ft hm
 |x::xs,[]=>λhm=>by exact ft hm
 |x::xs,e::es=>λhm=>by
  induction e using Expr.casesOn with
  |Name y pos=>
   obtain⟨a,b⟩:=kC (pQ hm).2.2;refine⟨Ub (· +1) a,?_⟩;show List.findIdx? (·.1) ((Jd,_)::JO es env)=Jb;rw[List.findIdx?_cons,b];rfl
  |_=>first|exact bnx hm|exact onx hm|cases hm
theorem il{tg:Tg}{K:Unit->Je->Prop}(hh:tg.isT=Jc->A.handled=Jb)(ht:mTg sc tg t=Jc)(ev:EnvR C env ρ σ s.heap)(m:Sim C σ s.heap)
  (hx:∀x∈tg.names,env.kindOf (Qb x)=Ja .local\/env.kindOf (Qb x)=Ja .cell)(hv:VR C σ s.heap p v)(hb:bindT tg p ρ=Ja ρ')
  (hK:∀s',Asg C env (slot env tg.names) σ s.heap s'.heap->EnvR C env ρ' σ s'.heap->Rest s s'->K () s'):Jh (Mo C) A (assign t env v) K Er s:=by
 induction tg with
 |name x=>
  induction t using Expr.casesOn with
  |Name y pos=>
   obtain⟨rfl,o0⟩:=tM ht;obtain rfl:=sj (show Ja (ρ.put x p)=Ja ρ' from hb);exact jT ev m (hx x<|Qk.mpr rfl) hv hK
  |_=>first|exact bnx ht|exact onx ht|cases ht
 |tup xs=>
  induction t using Expr.casesOn with
  |Tuple es a b=>
   replace ht:eF sc xs es=Jc:=ht
   induction p using PV.casesOn with
   |tup ps=>
    have hb:(if ps.length=xs.length then Ja (ρ.puts xs ps) else Jb)=Ja ρ':=hb;by_cases hl:ps.length=xs.length
    ·obtain rfl:=sj<|(Y8 hl).symm.trans hb;obtain⟨a,n,vs,rfl,es',g1,g2⟩:=hv;obtain⟨q1,q2⟩:=kC (env:=env) ht;have hsz:vs.size=ps.length:=by simpa using g2.length
     refine wpAny_assign_Tuple (hh rfl) ⟨_,g1,rfl,n,rfl⟩ (by rw[q1,hsz,hl]) q2 λh' he=> ?_;have kp:∀b o,s.heap.get? b=Ja o->h'.get? b=Ja o:=λb o e=>he b o (KU<|QJ e) e;have st:Step none1 σ s.heap σ h':= .more kp;refine jo (s:={s with heap:=h'}) ht (ev.step st) (m.more kp) hx (g2.step st) hl λs2 a2 ev2 r2=> ?_;refine hK s2 ⟨λc o f e=>a2.mv c o f<|kp c o e,λc f=> ?_,λl f=>a2.frs l<|f.step st λo0 o0 o0 o0 q=>q,a2.sim,λc f=> ?_⟩ ev2 r2
     ·obtain⟨q3,q4⟩:=a2.fok c f;exact⟨q3,q4.imp (λz'=>by obtain⟨b1,b2⟩:=z';exact⟨b1,λvs n e=>b2 vs n<|kp c _ e⟩) id⟩
     ·obtain⟨q3,q4⟩:=a2.has c f;exact⟨λo e=>q3 o<|kp c o e,q4⟩
    ·exact ns<|(Y7 hl).symm.trans hb
   |_=>exact ns hb
  |_=>first|exact bnx ht|exact onx ht|cases ht
end
theorem bT{L:Type}{x y:Jq}{v:L}{l:List (Jq×L)}(h:x≠y):YB x ((y,v)::l)=YB x l:=by
 rw[Yp,beq_eq_false_iff_ne.mpr h]
theorem lookup_cons_self{L:Type}{x:Jq}{v:L}{l:List (Jq×L)}:YB x ((x,v)::l)=Ja v:=by
 rw[Yp,beq_self_eq_true]
theorem iV{env:Js}:∀ (names:List (Jq×JX)) (acc:List (Jq×Jg)),(∀n,(n,NameKind.free)∈names->∃c,env.cells.lookup n=Ja c)->(∀x c,acc.lookup x=Ja c->env.cells.lookup x=Ja c)->
  ∃cl,(forIn names acc (λ(p:Jq×JX) (cs:List (Jq×Jg))=>if(p.2==NameKind.free)=Jc then do let a<-cellOf env p.1;pure (ForInStep.yield ((p.1,a)::cs)) else pure (ForInStep.yield cs)):Sem _)=pure cl/\
   (∀x c,cl.lookup x=Ja c->env.cells.lookup x=Ja c)/\(∀x,((x,NameKind.free)∈names\/(acc.lookup x).isSome)->(cl.lookup x).isSome)
 |[]=>λacc o0 ha=>⟨acc,rfl,ha,λx h=>h.elim (λq=>by cases q) id⟩
 |(n,k)::r=>λacc hf ha=>by
  by_cases hk:k= .free
  ·subst hk;obtain⟨c,hc⟩:=hf n Wb;obtain⟨cl,e1,e2,e3⟩:=iV r ((n,c)::acc) (λy hy=>hf y (Kz _ hy)) (λx d hx=>by
    by_cases q:x=n
    ·subst q;obtain rfl:=sj<|lookup_cons_self.symm.trans hx;exact hc
    ·rw[bT q] at hx;exact ha x d hx)
   refine⟨cl,?_,e2,λx h=>e3 x ?_⟩
   ·rw[List.forIn_cons];simp only[beq_self_eq_true,if_true];have:cellOf env n=pure c:=by unfold cellOf;rw[hc]
    rw[this];exact e1
   ·rcases h with h|h
    ·rcases Qt.mp h with h|h
     ·cases h;right;rw[lookup_cons_self];rfl
     ·exact .inl h
    ·right
     by_cases q:x=n
     ·subst q;rw[lookup_cons_self];rfl
     ·rw[bT q];exact h
  ·obtain⟨cl,e1,e2,e3⟩:=iV r acc (λy hy=>hf y<|Kz _ hy) ha;refine⟨cl,?_,e2,λx h=>e3 x ?_⟩
   ·rw[List.forIn_cons];have:(k==NameKind.free)=Jd:=by simpa using hk
    simp only[this,Bool.false_eq_true,if_false];exact e1
   ·rcases h with h|h
    ·rcases Qt.mp h with h|h
     ·cases h;exact absurd rfl hk
     ·exact .inl h
    ·exact .inr h
theorem lw{env:Js}{scope:Jk}(hf:∀n,(n,NameKind.free)∈scope.names->∃c,env.cells.lookup n=Ja c):
  ∃cl,closureFor scope env=pure cl/\(∀x c,cl.lookup x=Ja c->env.cells.lookup x=Ja c)/\(∀x,(x,NameKind.free)∈scope.names->∃c,cl.lookup x=Ja c):=by
 obtain⟨cl,e1,e2,e3⟩:=iV scope.names [] hf (λx c h=>by simp at h);refine⟨cl,?_,e2,λx h=>Option.isSome_iff_exists.mp (e3 x (.inl h))⟩;simp only[closureFor];have:(forIn scope.names ([]:List (Jq×Jg)) (λ(x:Jq×JX) (cs:List (Jq×Jg))=>match x with
   |(name,kind)=>if(kind==NameKind.free)=Jc then do let a<-cellOf env name;pure (ForInStep.yield ((name,a)::cs)) else pure (ForInStep.yield cs)):Sem _)=pure cl:=e1
 first|exact this|(rw[this];rfl)
theorem fU:∀ (names:List (Jq×JX)) (n:Nat) (a:List (Jq×Jg)) (x:Jq),(x,NameKind.cell)∉names->(JQ n names a).lookup x=a.lookup x
 |[]=>λo0 o0 o0 o0=>rfl
 |(y,k)::r=>λn a x h=>by
  have T:(x,NameKind.cell)∉r:=λq=>h<|Kz _ q;unfold JQ
  split
  ·rename_i M
   rw[fU r (n+1) _ x T,bT];rintro rfl;have:k= .cell:=by simpa using M
   subst this;exact h Wb
  ·exact fU r n a x T
theorem fu:∀ (names:List (Jq×JX)) (n:Nat) (u:List (Jq×Jg)) (x:Jq),(x,NameKind.cell)∈names->∃c,n<=c/\(JQ n names u).lookup x=Ja c
 |(y,k)::r,n,u,x,h=>by
  by_cases T:(x,NameKind.cell)∈r
  ·unfold JQ
   split
   ·obtain⟨c,a,b⟩:=fu r (n+1) ((y,n)::u) x T;exact⟨c,Kj a,b⟩
   ·exact fu r n u x T
  ·rcases Qt.mp h with h|h
   ·cases h;unfold JQ;rw[Y8 (by rfl)];refine⟨n,QA _,?_⟩;rw[fU r (n+1) _ _ T,lookup_cons_self]
   ·exact absurd h T
structure CellsR(h:Ji)(lo:Nat)(cs acc:List (Jq×Jg)):Prop where
 new:∀n c,cs.lookup n=Ja c->(lo<=c/\h.IsCell c Jb)\/acc.lookup n=Ja c
 apart:∀n n' c,lo<=c->cs.lookup n=Ja c->cs.lookup n'=Ja c->n=n'
theorem pN:∀ (names:List (Jq×JX)) (h:Ji) (v:Nat) (g u:List (Jq×Jg)),CellsR h v u g->(∀n c,u.lookup n=Ja c->c<h.objs.size)->v<=h.objs.size->
  CellsR (Y2 h names) v (JQ h.objs.size names u) g
 |[]=>λo0 o0 o0 o0 x o0 o0=>x
 |(m,k)::r=>λh v g u x R l=>by
  unfold Y2 JQ
  split
  ·have:=pN r (h.push {cls:= .type "cell",data:= .cell Jb}) v g ((m,h.objs.size)::u)
    ⟨λn c L=>by
     by_cases q:n=m
     ·subst q;obtain rfl:=sj<|lookup_cons_self.symm.trans L;exact .inl ⟨l,⟨_,QN _ rfl,rfl⟩⟩
     ·rw[bT q] at L;exact(x.new n c L).imp (λz=>by obtain⟨a,b⟩:=z;exact⟨a,b.keeps λb o e=>Qw _ e⟩) id,
    λn X c Z N p=>by
     by_cases q:n=m
     ·subst q;obtain rfl:=sj<|lookup_cons_self.symm.trans N;by_cases B:X=n
      ·exact B.symm
      ·rw[bT B] at p;exact absurd (R X _ p)<|KH _
     ·rw[bT q] at N;by_cases B:X=m
      ·subst B;obtain rfl:=sj<|lookup_cons_self.symm.trans p;exact absurd (R n _ N)<|KH _
      ·rw[bT B] at p;exact x.apart n X c Z N p⟩
    (λn c L=>by
     rw[KL];by_cases q:n=m
     ·subst q;obtain rfl:=sj<|lookup_cons_self.symm.trans L;exact QI _
     ·rw[bT q] at L;exact Ye (R n c L)) (by rw[KL];exact Yh l)
   rwa [KL] at this
  ·exact pN r h v g u x R l
section
variable{C:Cx}{A:Jj}{E:Jf->Je->Prop}{s:Je}
noncomputable def compE(scope:Jk)(c:List (Jq×Jg))(L:Jg)(env:Js):Js:=
 {scope,locals:=L,globals:=env.globals,cells:=JQ (L+1) scope.names c,qual:=env.qual,func:=Jb,code:=env.code,frame:=env.frame,builtins:=env.builtins}
theorem p5{env:Js}{scope:Jk}{Q:Js->Je->Prop}
  (h:Q (compE scope l s.heap.objs.size env) {s with heap:=Y2 (s.heap.push {cls:= .type "dict",data:= .dict #[]}) scope.names}):
  Jh (Mo C) A (newFunctionEnv scope env.globals l [] env.qual Jb .none (Ja env)) Q E s:=by
 simp only[newFunctionEnv,Option.isSome_some,if_true];refine YD<|wpAny_alloc ?_;refine YD<|wpAny_layCells _ (λn k c=>by cases P:k==NameKind.cell<;>simp) _ _ _ _ ?_;rw[show({s with heap:=s.heap.push {cls:= .type "dict",data:= .dict #[]}}:Je).heap.objs.size=s.heap.objs.size+1 from KL ..];exact YD<|YE (YE h)
theorem gZ{f:Jq×JX->JX}:∀ {names:List (Jq×JX)} {x:Jq},(names.map λp=>(p.1,f p)).lookup x=(names.lookup x).map λk=>f (x,k)
 |[],x=>rfl
 |(n,k)::r,x=>by
  by_cases q:x=n
  ·subst q;simp only[Qq,lookup_cons_self,We]
  ·simp only[Qq,bT q];exact gZ
theorem mO{env c:Js}{scope:Jk}(h:env.scope.kind= .function):
  Env.kindOf {c with scope:=relabel scope env} x=(scope.names.lookup x).map λk=>if k= .free/\env.kindOf x=Ja .cell then .cell else k:=by
 show(relabel scope env).names.lookup x=_;have:(relabel scope env).names=scope.names.map λp=>(p.1,if(p.2== .free&&env.scope.kind== .function&&env.kindOf p.1==Ja .cell)=Jc then .cell else p.2):=by
  unfold relabel;refine Qj λp o0=> ?_;obtain⟨n,k⟩:=p;dsimp only
  split<;>rfl
 rw[this,gZ]
 congr 1
 funext k;simp only[h,beq_self_eq_true,Yl,QW,beq_iff_eq]
theorem kR{sc c:Jk}(h:eW sc c=Jc):c.kind= .function/\(∀n,(n,NameKind.free)∈c.names->sc.names.lookup n=Ja .cell\/sc.names.lookup n=Ja .free)/\(∀n k,(n,k)∈c.names->c.names.lookup n=Ja k):=by
 simp only[eW,QW,beq_iff_eq,Qx,Ua] at h;obtain⟨⟨⟨⟨⟨N,o0⟩,o0⟩,p⟩,J⟩,o0⟩:=h;refine⟨N,λn o=> ?_,λn k o=>J (n,k) o⟩;have:=p (n,.free) o
 simpa [Yv] using this
structure ScR(sc:Jk)(env:Js):Prop where
 loc:∀y,sc.names.lookup y=Ja .local->env.kindOf y=Ja .local
 cell:∀y,sc.names.lookup y=Ja .cell->env.kindOf y=Ja .cell
 free:∀y,sc.names.lookup y=Ja .free->env.kindOf y=Ja .cell\/env.kindOf y=Ja .free
 glob:∀y,sc.names.lookup y=Ja .globalImplicit->env.kindOf y=Ja .globalImplicit
theorem ScR.self(env:Js):ScR env.scope env:=⟨λo0 h=>h,λo0 h=>h,λo0 h=> .inr h,λo0 h=>h⟩
theorem sD{env:Js}{scope:Jk}{j:List (Jq×Jg)}(W:EnvR C env L σ s.heap)(m:Sim C σ s.heap)(G:ScR sc env)(ok:eW sc scope=Jc)(U:ownOk tg scope=Jc)
  (K:∀x c,j.lookup x=Ja c->env.cells.lookup x=Ja c)(V:∀x,(x,NameKind.free)∈scope.names->∃c,j.lookup x=Ja c)
  {i:Js}(Z:i={compE scope j s.heap.objs.size env with scope:=relabel scope env}){S:Ji}(u:S=Y2 (s.heap.push {cls:= .type "dict",data:= .dict #[]}) scope.names):
  EnvR C i (blank tg L) σ S/\(∀b o,s.heap.get? b=Ja o->S.get? b=Ja o)/\i.locals=s.heap.objs.size/\
  (∀x,scope.names.lookup x=Ja .local->i.kindOf x=Ja .local)/\(∀x,scope.names.lookup x=Ja .cell->i.kindOf x=Ja .cell/\∀c,i.cells.lookup x=Ja c->s.heap.objs.size<=c)/\
  (∀x k,scope.names.lookup x=Ja k->k≠ .free->i.kindOf x=Ja k)/\(∀x,scope.names.lookup x=Ja .free->i.kindOf x=Ja .cell\/i.kindOf x=Ja .free)/\(∀x c,i.cells.lookup x=Ja c->s.heap.objs.size<=c\/env.cells.lookup x=Ja c):=by
 obtain⟨g,X,k3⟩:=kR ok;have X:∀n,(n,NameKind.free)∈scope.names->env.kindOf n=Ja .cell\/env.kindOf n=Ja .free:=λn H=>(X n H).elim (λq=> .inl (G.cell n q)) (G.free n);have z:∀x,i.kindOf x=(scope.names.lookup x).map λk=>if k= .free/\env.kindOf x=Ja .cell then .cell else k:=λx=>by rw[Z];exact mO W.fn
 have kp:∀b o,s.heap.get? b=Ja o->S.get? b=Ja o:=λb o e=>by rw[u];exact pushCells_keeps _ _ b o<|Qw _ e
 have r:i.locals=s.heap.objs.size:=by rw[Z];rfl
 have J:i.cells=JQ (s.heap.objs.size+1) scope.names j:=by rw[Z];rfl
 have R:CellsR S (s.heap.objs.size+1) i.cells j:=by
  have:=pN scope.names (s.heap.push {cls:= .type "dict",data:= .dict #[]}) (s.heap.objs.size+1) j j ⟨λn c h=> .inr h,λn n' c Z N Y=>by
   obtain⟨o0,v,o,q,o0⟩:=W.newC n c (K n c N);exact absurd (QJ q) (Kc.mpr (Kj Z))⟩ (λn c h=>by
    obtain⟨o0,v,o,q,o0⟩:=W.newC n c (K n c h);rw[KL];exact Ye (QJ q)) (by rw[KL];exact QA _)
  rw[KL] at this;rw[J,u];exact this
 have old:∀x c,i.cells.lookup x=Ja c->c<s.heap.objs.size+1->env.cells.lookup x=Ja c:=λx c h q=>by
  rcases R.new x c h with⟨a,o0⟩|a
  ·exact absurd q<|Kc.mpr a
  ·exact K x c a
 have P:∀x,scope.names.lookup x=Ja .cell->∃c,s.heap.objs.size+1<=c/\i.cells.lookup x=Ja c:=λx h=>by
  rw[J];exact fu _ _ _ _<|mem_of_lookup h
 have B:∀x,scope.names.lookup x=Ja .free->i.cells.lookup x=j.lookup x:=λx h=>by
  rw[J];refine fU _ _ _ _ λq=> ?_;have:=k3 x .cell q;rw[h] at this;cases this
 have st:Step none1 σ s.heap σ S:= .more kp;refine⟨⟨?_,?_,?_,?_,?_,?_,?_,?_,?_,?_,?_⟩,kp,r,?_,?_,?_,?_,?_⟩
 ·rw[Z];exact g
 ·rw[Z];exact W.glob
 ·rw[Z];exact W.blt
 ·refine⟨λo0=>Jb,?_,λx p T F=> ?_⟩
  ·rw[r,u];exact(Heap.Ns.new s.heap<|.type "dict").keeps (pushCells_keeps _ _)
  ·obtain⟨t,O,o0⟩:=jA T;rw[z] at F;exfalso
   induction e:scope.names.lookup (Qb x) with
   |none=>rw[e] at F;exact ns F
   |some k=>
    rw[e] at F;simp only[We,Option.some.injEq] at F
    split at F
    ·cases F
    ·subst F;simp only[ownOk,Qx] at U;have:=U _<|mem_of_lookup e;simp[Vl.Internal.nm] at this
     rcases this with this|⟨y,Q,this⟩
     ·exact t<|ofString_inj this
     ·exact O<|ofString_inj this▸Q
 ·intro x p T F;obtain⟨t,O,T⟩:=jA T;have f:scope.names.lookup (Qb x)=Ja .free:=by
   rw[z] at F
   induction e:scope.names.lookup (Qb x) with
   |none=>rw[e] at F;rcases F with F|F<;>exact ns F
   |some k=>
    rw[e] at F;simp only[We,Option.some.injEq] at F;by_cases M:k= .free
    ·rw[M]
    ·rw[Y7 (λq=>M q.1)] at F
     rcases F with F|F
     ·subst F;simp only[ownOk,Qx] at U;have:=U _<|mem_of_lookup e;simp[Vl.Internal.nm] at this
      rcases this with this|⟨y,Q,this⟩
      ·exact absurd (ofString_inj this) t
      ·exact absurd (ofString_inj this▸Q) O
     ·exact absurd F M
  obtain⟨c,l⟩:=V _<|mem_of_lookup f;have:=X _<|mem_of_lookup f;obtain⟨D,v,a,b,d⟩:=W.cell x p T this;have:D=c:=by have:=K _ _ l;obtain rfl:=sj<|a.symm.trans this;rfl
  subst this;exact⟨D,v,(B _ f).trans l,b.keeps kp,d.step st⟩
 ·rw[r];exact m.fresh<|QA _
 ·rw[r];exact m.freshB<|QA _
 ·intro x c h;by_cases q:c<s.heap.objs.size+1
  ·exact W.baseC x c<|old x c h q
  ·exact m.freshB<|Kj (Kc.mp q)
 ·intro x c h
  rcases R.new x c h with⟨a,b⟩|a
  ·exact⟨m.fresh<|Kj a,_,b⟩
  ·obtain⟨q,v,b⟩:=W.newC x c<|K x c a;exact⟨q,v,b.keeps kp⟩
 ·intro x y c N Y;by_cases q:c<s.heap.objs.size+1
  ·exact W.apart x y c (old x c N q)<|old y c Y q
  ·exact R.apart x y c (Kc.mp q) N Y
 ·intro x h;rw[z] at h
  induction e:scope.names.lookup x with
  |none=>rw[e] at h;rcases h with h|h<;>exact ns h
  |some k=>
   by_cases M:k= .free
   ·subst M;obtain⟨c,l⟩:=V _<|mem_of_lookup e;exact⟨c,(B _ e).trans l⟩
   ·rw[e] at h;simp only[We,Option.some.injEq] at h;rw[Y7 (λq=>M q.1)] at h
    rcases h with h|h
    ·subst h;obtain⟨c,o0,q⟩:=P _ e;exact⟨c,q⟩
    ·exact absurd h M
 ·intro x h;rw[z,h];rfl
 ·intro x h;refine⟨by rw[z,h];rfl,λc hx=> ?_⟩;obtain⟨D,I,q2⟩:=P x h;obtain rfl:=sj<|hx.symm.trans q2;exact Kj I
 ·intro x k h M;rw[z,h,We,Y7 (λq=>M q.1)]
 ·intro x h;rw[z,h,We];by_cases q:env.kindOf x=Ja .cell
  ·rw[Y8 ⟨rfl,q⟩];exact .inl rfl
  ·rw[Y7 (λw=>q w.2)];exact .inr rfl
 ·intro x c h
  rcases R.new x c h with⟨a,o0⟩|a
  ·exact .inl<|Kj a
  ·exact .inr<|K x c a
end
section
variable{C:Cx}{A:Jj}{R:Result->Je->Prop}{s:Je}
noncomputable abbrev tests(ifs:List Jl)(env:Js):Sem Bool:=forIn ifs Jc λc r=>if r=Jc then do let ok<-Y3 c env (Jw c env);pure (ForInStep.yield ok) else pure (ForInStep.yield r)
theorem nw{Er:Jf->Je->Prop}(hEr:Er=notedBy (Mo C) A env λe s'=>R (.error e) s')(I:Nat->Je->Prop)
  (turn:∀n s,I n s->Jh (Mo C) A (pyNext it) (λr s₁=>match r with
   |none=>R (.ok .next) s₁
   |some v=>Jh (Mo C) A (letOwnedTupleGo target it v) (λo0 s₁'=>Jh (Mo C) A (assign target env v) (λo0 s₂=>
     Jh (Mo C) A (tests ifs env) (λok s₃=>
      if ok=Jc then Jh (Mo C) A (Jw elt env) (λx s₄=>
       Jh (Mo C) A (call (.builtin "list.append") [acc,x]) (λo0 s₅=>∃m,m<n/\I m s₅) Er s₄) Er s₃
      else∃m,m<n/\I m s₃) Er s₂) Er s₁') Er s₁) Er s)
  (n:Nat)(h:I n s):
  codeAny (Mo C) A (.compLoop (.ListComp elt [⟨target,iter,ifs,0⟩] scope pos) 0 it acc env) R s:=by
 subst hEr;refine codeAny_loop rfl I (λn s hI=> ?_) n h;show Jh _ A ((compTurn (.ListComp elt [⟨target,iter,ifs,0⟩] scope pos) 0 it acc env).onRaise (λx=>do noteFrame x env;theTreesLotGoes x)) _ _ s;refine wpAny_noted ?_;rw[compTurn_list];refine YD<|YI (YD<|YF (turn n s hI) (λr s₁ h₁=> ?_) λo0 o0 h'=>h')
 induction r with
 |none=>exact YE h₁
 |some v=>
  refine YD (YF h₁ (λo0 s₁' h₁'=> ?_) λo0 o0 h'=>h');refine YD<|YF h₁' (λo0 s₂ h₂=>YD<|YF h₂ (λok s₃ h₃=> ?_) λo0 o0 h'=>h') λo0 o0 h'=>h'
  induction ok with
  |false=>exact YE ⟨rfl,h₃⟩
  |true=>
   exact YD<|YD (YF h₃ (λx s₄ h₄=>YD<|YF h₄ (λo0 s₅ h₅=>YE<|YE ⟨rfl,h₅⟩) λo0 o0 h'=>h') λo0 o0 h'=>h')
theorem lN{h S:Ji}{D:Jg}(st:Step none1 σ h σ' S)(g:h.get? D=Ja (lstO v n))(E:σ D=Jb):S.get? D=Ja (lstO v n)/\σ' D=Jb:=by
 obtain⟨a,o,b,c⟩:=st.keep D _ g E;rw[(c λf=>f.elim).eq (by simp)] at b;exact⟨b,a⟩
theorem uu(h:i<n):n-(i+1)+1<n-i+1:=Yn<|Nat.sub_succ_lt_self n i h
structure CompAt(C:Cx)(St:Nat->PH->Ji->Prop)(cenv:Js)(ρb:Rho)(go:List PV->List PV->PH->Prop)(xs:List PV)(σ:PH)(s₀:Je)(D:Jg)(i:Nat)(acc:List PV)(σ':PH)(av:Array Jf)(nn:Nat)(s':Je):Prop where
 le:i<=xs.length
 ai:acc.length<=i
 st:St i σ' s'.heap
 m:Sim C σ' s'.heap
 ev:EnvR C cenv ρb σ' s'.heap
 step:Step none1 σ s₀.heap σ' s'.heap
 rest:Rest s₀ s'
 hD:s'.heap.get? D=Ja (lstO av nn)
 nD:σ' D=Jb
 hacc:VRs C σ' s'.heap acc av.toList
 go:go (xs.drop i) acc σ'
theorem rG{I D:Jg}{St:Nat->PH->Ji->Prop}{xs:List PV}{chk:PH->Prop}{H:Js}{tg:Tg}
  {tst:Rho->PH->(Bool->PH->Prop)->Prop}{el:Rho->PH->Post->Prop}{B:List PV->PH->Prop}{s₀:Je}
  (S:Src C A t I fp xs chk St)(ht:mTg sc tg t=Jc)(own:∀x∈tg.names,H.kindOf (Qb x)=Ja .local\/H.kindOf (Qb x)=Ja .cell)
  (ah:∀c,slot H tg.names c->s₀.heap.get? c=Jb)(as:∀b∈fp,s₀.heap.get? b=Jb)(DF:s₀.heap.get? D=Jb)(DB:C.B.get? D=Jb)
  (an:H.locals∉fp)(aa:∀x c,H.cells.lookup x=Ja c->c∉fp)(al:D∉fp)(ak:AOK C n A l σ s₀.heap)(T:xs.length<=lim)
  (a1:∀ρ' σ' s' Kb,EnvR C H ρ' σ' s'.heap->Sim C σ' s'.heap->AOK C n A l σ' s'.heap->tst ρ' σ' Kb->∀ao,Jh (Mo C) A (tests ar H) (λok aj=>∃F,A4 (Sim C F aj.heap) (Step none1 σ' s'.heap F aj.heap) (Rest s' aj)<|Kb ok F) ao s')
  (ba:∀ρ' σ' s' Q,EnvR C H ρ' σ' s'.heap->Sim C σ' s'.heap->AOK C n A l σ' s'.heap->el ρ' σ' Q->∀ao,Jh (Mo C) A (Jw a0 H) (VP C none1 σ' s' Q) ao s')
  (hR:∀a X z d E,Sim C X z.heap->Step none1 σ s₀.heap X z.heap->Rest s₀ z->z.heap.get? D=Ja (lstO d E)->VRs C X z.heap a d.toList->X D=Jb->(∃m,z.heap.Ns H.locals m)->X H.locals=Jb->B a X->R (.ok .next) z)(O:St 0 σ1 s.heap)(m:Sim C σ1 s.heap)(ev:EnvR C H (blank tg ρ) σ1 s.heap)(st:Step none1 σ s₀.heap σ1 s.heap)(r:Rest s₀ s)(hD:s.heap.get? D=Ja (lstO #[] 0))(Y:σ1 D=Jb)
  (h:f5 chk tg ρ tst el xs [] σ1 B):
  codeAny (Mo C) A (.compLoop (.ListComp a0 [⟨t,iter,ar,0⟩] scope pos) 0 (.ref I) (.ref D) H) R s:=by
 refine nw rfl (λk s'=>X5 λi a σ' d E=>k=xs.length-i+1/\CompAt C St H (blank tg ρ) (λxs a σ=>f5 chk tg ρ tst el xs a σ B) xs σ s₀ D i a σ' d E s') ?_ _
  ⟨0,[],σ1,#[],0,rfl,⟨QV _,QV _,O,m,ev,st,r,hD,Y,rfl,h⟩⟩
 clear O m ev st r hD Y h;intro k s' hI;obtain⟨i,a,σ',d,E,rfl,I⟩:=hI;have h:=I.go;have ai:=I.ai;have O:=I.st;have m:=I.m;have ev:=I.ev;have st:=I.step;have r:=I.rest;have hD:=I.hD;have Y:=I.nD;have j:=I.hacc;have hi:=I.le;clear I;by_cases N:i<xs.length
 ·have hx:xs[i]? =Ja xs[i]:=Qg N;rw[List.drop_eq_getElem_cons N] at h;obtain⟨a5,h⟩:=h;obtain⟨ρ',hb,h⟩:=qc h;refine S.item hx m a5 O λv s1 ax=> ?_;refine ax _ _ λz hv m2 G a4 r2=> ?_;have fo:=S.fok O
  ·have bf:=ev.mv G fo an aa;have aq:=G D _ al hD;have ad:=j.mv G fo;have bb:=st.mv G as;refine il (λo0=>S.hdn) ht bf m2 own hv hb λs3 L ay r3=> ?_;have a6:¬slot H tg.names D:=λq=>by
    obtain⟨o0,o0⟩:=L.has D q;exact absurd ⟨d,E,rfl⟩<|(L.has D q).1 _ aq
   have a7:∀b∈fp,¬slot H tg.names b:=λb hb=>by
    rintro ⟨x,o0,q|q⟩
    ·exact an<|q.2▸hb
    ·exact aa _ _ q.2 hb
   have a9:=L.mv D _ a6 aq;have ap:=ad.mv L.mv L.fok;have az:=bb.mv L.mv ah;have au:=S.mv a4 L.mv L.fok a7;have weak:∀ {u h4},EnvR C H ρ' u h4->EnvR C H (blank tg ρ) u h4:=λx=>x.weak λy q e=>rU hb e;refine YF (a1 ρ' σ' s3 _ ay L.sim (ak.step az) h _) (λok s4 h4=> ?_) λo0 o0 x=>x;obtain⟨u,m4,V,r4,h⟩:=h4;have W:=S.step au V (λo0 o0 f=>f);obtain⟨aw,U⟩:=lN V a9 Y;have am:=ay.step V;have M:=ap.step V;have af:=az.trans V
   induction ok with
   |false=>
    exact⟨xs.length-(i+1)+1,uu N,i+1,a,u,d,E,rfl,⟨N,Yh ai,W,m4,weak am,af,((r.trans r2).trans r3).trans r4,aw,U,M,h⟩⟩
   |true=>
    refine YF (ba ρ' u s4 _ am m4 (ak.step af) h _) (λy s5 h5=> ?_) λo0 o0 x=>x;obtain⟨p,P,be,m5,J,r5,h⟩:=h5;have a2:=S.step W J (λo0 o0 f=>f);obtain⟨w,K⟩:=lN J aw U;have ab:=am.step J;have ac:=M.step J;have bg:=af.trans J;have bh:d.size=a.length:=by simpa using j.length
    refine wpAny_list_append_plain ⟨E,w⟩ (λh6 ae a8=> ?_) (by rw[bh];simp only[lim] at T;exact Qv (Qv ai<|Kv N)<|Qv T (by decide));obtain⟨n6,ae⟩:=ae;have g:Mv (· =D) s5.heap h6:=λc o f e=>a8.extBut c o f e;have Z:Fok C P s5.heap (· =D):=λc f=>by
     have f:c=D:=f;subst f;exact⟨DB,.inl ⟨K,gx w<|by simp⟩⟩
    have m6:Sim C P h6:=m5.mv g Z λc f q=>by
     have f:c=D:=f;subst f;exact ns<|K.symm.trans q
    have bd:EnvR C H ρ' P h6:=ab.mv g Z (λq=>by
      obtain⟨o0,⟨o,es,ep,e,hd,o0⟩,o0⟩:=ab.ns;have q:H.locals=D:=q;rw[q,w] at e;obtain rfl:=sj e;cases hd) λy c hc q=>by
       have q:c=D:=q;subst q;obtain⟨o0,v1,o1,q1,q2⟩:=ab.newC y _ hc;obtain rfl:=sj<|w.symm.trans q1;cases q2
    refine⟨xs.length-(i+1)+1,uu N,i+1,a++[p],P,d.push y,n6,rfl,⟨N,by rw[QG];exact KN ai,S.mv a2 g Z (λb hb q=>al (by rw[<-(q:b=D)];exact hb)),m6,weak bd,
     bg.mv g (λc f=>by have f:c=D:=f;subst f;exact DF),(((r.trans r2).trans r3).trans r4).trans r5,ae,K,?_,h⟩⟩
    rw[Array.toList_push];exact(ac.append<|by exact⟨y,[],rfl,be,rfl⟩).mv g Z
 ·have bc:i=xs.length:=Nat.le_antisymm hi<|Kc.mp N;subst bc;rw[List.drop_length] at h;refine S.done m h.1 O λz m2 G r2=> ?_;have fo:=S.fok O;refine hR a σ' z d E m2 (st.mv G as) (r.trans r2) (G D _ al hD) (j.mv G fo) Y ?_ ev.newL h.2;obtain⟨mm,hn,o0⟩:=(ev.mv G fo an aa).ns;exact⟨mm,hn⟩
end
def jl(C:Cx)(A:Jj)(env:Js)(t iter:Jl)(σ:PH)(s:Je)(K:List PV->(PH->Prop)->PH->Prop)(Er:Jf->Je->Prop):Prop:=
 ∀R:Jf->Je->Prop,(∀I f S m W P c,Src C A t I f P c S->S 0 m W.heap->Sim C m W.heap->Step none1 σ s.heap m W.heap->Rest s W->
  (∀b∈f,s.heap.get? b=Jb/\b<W.heap.objs.size)->P.length<=lim->K P c m->R (.ref I) W)->
  Jh (Mo C) A (Jw iter env) (λx k=>Jh (Mo C) A (YN x) R Er k) Er s
section
variable{C:Cx}{σ:PH}{h:Ji}{D:Jg}{po:PO}
mutual
theorem VR.adopt(nt:∀vs n,h.get? D≠Ja (tupO vs n)):∀ (p:PV) (v:Jf),VR C σ h p v->VR C (σ.set D po) h p v
 | .none=>λo0 e=>e
 | .bool _=>λo0 e=>e
 | .int _=>λo0 e=>e
 | .str _=>λo0 e=>e
 | .ref _=>λo0 e=>e
 | .scr _=>λo0 e=>e
 | .tup l=>λv e=>by
  obtain⟨a,n,vs,T,es,e2,V⟩:=e;refine⟨a,n,vs,T,?_,e2,VRs.adopt nt l _ V⟩;rw[PH.set_ne]
  ·exact es
  ·rintro rfl;exact nt vs n e2
theorem VRs.adopt(nt:∀vs n,h.get? D≠Ja (tupO vs n)):∀ (l:List PV) (vs:List Jf),VRs C σ h l vs->VRs C (σ.set D po) h l vs
 |[]=>λo0 e=>e
 |p::ps=>λvs e=>by
  obtain⟨v,r,T,e2,X⟩:=e;exact⟨v,r,T,VR.adopt nt p v e2,VRs.adopt nt ps r X⟩
end
theorem OR.adopt(E:σ D=Jb)(nt:∀vs n,h.get? D≠Ja (tupO vs n)):∀ (p:PO) (o:Jp),OR C σ h p o->OR C (σ.set D po) h p o:=λp o r=>by
 have a:∀ {x:Jg} {q:PO},σ x=Ja q->(σ.set D po) x=Ja q:=λw=>(PH.set_ne _ _ λz=>ns<|E.symm.trans (z▸w)).trans w
 induction p with
 |list l=>obtain⟨vs,n,F,X⟩:=r;exact⟨vs,n,F,VRs.adopt nt _ _ X⟩
 |dict=>
  obtain⟨U,H,P,x,d,e,k,nd,L,v⟩:=r;refine⟨U,H,P,x,d,e,k,nd,λy W=> ?_,VRs.adopt nt _ _ v⟩;obtain⟨n,vs,m,g,i⟩:=L y W;exact⟨(PH.set_ne _ _ λz=>by rw[z] at g;exact nt vs m g).trans n,vs,m,g,i⟩
 |fd=>obtain⟨U,H,e,k,v,z⟩:=r;exact⟨U,H,e,k,λi f p N Y=>(v i f p N Y).imp λu q=>⟨q.1,VR.adopt nt _ _ q.2⟩,z⟩
 |inst d=>obtain⟨c,k,T,F,X,I,V⟩:=r;exact⟨c,k,T,F,X,I,V.imp λR w=>a w⟩
 |hid=>exact r
theorem Sim.adopt(m:Sim C σ h)(E:σ D=Jb)(nt:∀vs n,h.get? D≠Ja (tupO vs n))(e:h.get? D=Ja W)(b:C.B.get? D=Jb)(r:OR C σ h po W)(T:po.needs C.ok D:=by trivial):Sim C (σ.set D po) h where
 rich:=λx o g=>by
  by_cases q:x=D
  ·subst q;rw[PH.set_same] at g;obtain rfl:=sj g;exact T
  ·rw[PH.set_ne _ _ q] at g;exact m.rich x o g
 base:=m.base
 new:=λx o g=>by
  by_cases q:x=D
  ·subst q;exact b
  ·rw[PH.set_ne _ _ q] at g;exact m.new x o g
 objs:=λx o g=>by
  by_cases q:x=D
  ·subst q;rw[PH.set_same] at g;obtain rfl:=sj g;exact⟨W,e,r.adopt E nt⟩
  ·rw[PH.set_ne _ _ q] at g;obtain⟨P,N,p⟩:=m.objs x o g;exact⟨P,N,p.adopt E nt⟩
end
theorem lL{sc:Jk}(h:isOwn sc y=Jc):sc.names.lookup y=Ja .local\/sc.names.lookup y=Ja .cell:=by
 simpa [isOwn,Yv] using h
theorem kJ{sc:Jk}:∀ {xs:List String} {es:List Jl},eF sc xs es=Jc->∀x∈xs,sc.names.lookup (Qb x)=Ja .local\/sc.names.lookup (Qb x)=Ja .cell
 |[],[]=>λo0 x hx=>by cases hx
 |[],_::_=>λhm o0 o0=>by exact ft hm
 |x::xs,[]=>λhm o0 o0=>by exact ft hm
 |x::xs,e::es=>λhm y hy=>by
  induction e using Expr.casesOn with
  |Name z pos=>
   obtain⟨rfl,h1,h2⟩:=pQ hm
   rcases Qt.mp hy with rfl|hy
   ·exact lL h1
   ·exact kJ h2 y hy
  |_=>first|exact bnx hm|exact onx hm|cases hm
theorem qj{sc:Jk}{tg:Tg}(h:mTg sc tg t=Jc):∀x∈tg.names,sc.names.lookup (Qb x)=Ja .local\/sc.names.lookup (Qb x)=Ja .cell:=by
 induction tg with
 |name x=>
  induction t using Expr.casesOn with
  |Name y pos=>
   obtain⟨rfl,h1⟩:=tM h;intro z hz;simp only[Tg.names,Qk] at hz;subst hz;exact lL h1
  |_=>first|exact bnx h|exact onx h|cases h
 |tup xs=>
  induction t using Expr.casesOn with
  |Tuple es a b=>exact kJ (show eF sc xs es=Jc from h)
  |_=>first|exact bnx h|exact onx h|cases h
section
variable{C:Cx}{A:Jj}{s:Je}
theorem ql
  {tst:Rho->PH->(Bool->PH->Prop)->Prop}{el:Rho->PH->Post->Prop}{use:Option (Jf->Sem Unit)}{Q' Er:Jf->Je->Prop}
  (ev:EnvR C env ρ σ s.heap)(ak:AOK C n A l σ s.heap)(sr:ScR sc env)(ok:eW sc scope=Jc)(ow:ownOk tg scope=Jc)(ht:mTg scope tg t=Jc)
  (hs:∀x,JS iter env x=pure x)
  (ar:jl C A env t iter σ s (λxs chk σ1=>f5 chk tg ρ tst el xs [] σ1 λa r=>wnew (.list a) r Q) Er)
  (ad:∀H,ScR scope H->∀ρ' σ' s' Kb,EnvR C H ρ' σ' s'.heap->Sim C σ' s'.heap->AOK C n A l σ' s'.heap->tst ρ' σ' Kb->∀d,Jh (Mo C) A (tests K H) (λok N=>∃j,A4 (Sim C j N.heap) (Step none1 σ' s'.heap j N.heap) (Rest s' N)<|Kb ok j) d s')
  (am:∀H,ScR scope H->∀ρ' σ' s' Q,EnvR C H ρ' σ' s'.heap->Sim C σ' s'.heap->AOK C n A l σ' s'.heap->el ρ' σ' Q->∀d,Jh (Mo C) A (Jw ac H) (VP C none1 σ' s' Q) d s')
  (ah:∀D σ3 s3 L,Sim C σ3 s3.heap->Step none1 σ s.heap σ3 s3.heap->Rest s s3->s.heap.get? L=Jb->σ3 L=Jb->C.B.get? L=Jb->(∃m,s3.heap.Ns L m)->Q (.ref D) σ3->compPost (Mo C) A Er use Q' (.ref D) L (.ok .next) s3):
  Jh (Mo C) A (comprehension (.ListComp ac [⟨t,iter,K,0⟩] scope pos) scope env ab (newList []) Jd (Jw iter env) use) Q' Er s:=by
 obtain⟨k1,k2,k3⟩:=kR ok;have aq:∀n,(n,NameKind.free)∈scope.names->env.kindOf n=Ja .cell\/env.kindOf n=Ja .free:=λn hn=>(k2 n hn).elim (λq=> .inl (sr.cell n q)) (sr.free n);obtain⟨cl,c0,c1,c2⟩:=lw (env:=env) (scope:=scope) λn hn=>ev.hasC n<|aq n hn;refine wpAny_comprehension_free (g:=⟨t,iter,K,0⟩) (gs:=[]) rfl hs c0 k1 (λx hx hl=>by have:=k3 x.1 x.2 hx;rw[hl] at this;exact this) ?_;refine ar _ λI fp St σ1 W xs chk S al M P r1 G ai au=> ?_;refine JB ?_;refine p5 ?_;generalize ae:({W with heap:=W.heap.push {cls:= .type "list",dict:=Jb,data:= .seq ([]:List Jf).toArray}}:Je)=s2;have F:s2.heap=W.heap.push (lstO #[] 0):=by rw[<-ae]
 have U:Rest W s2:=by rw[<-ae];exact⟨rfl,rfl⟩
 have k:∀b o,W.heap.get? b=Ja o->s2.heap.get? b=Ja o:=λb o e=>by rw[F];exact Qw _ e
 have m2:Sim C σ1 s2.heap:=M.more k;have E:Step none1 σ s.heap σ1 s2.heap:=P.trans<|.more k;have z:s2.heap.objs.size=W.heap.objs.size+1:=by rw[F,KL]
 obtain⟨J,p,T,q1,q2,q3,q4,q5⟩:=sD (s:=s2) (tg:=tg) (ev.step E) m2 sr ok ow c1 c2 rfl rfl;generalize aw:({compE scope cl s2.heap.objs.size env with scope:=relabel scope env}:Js)=H at J T q1 q2 q3 q4 q5 ⊢;generalize ax:Y2 (s2.heap.push {cls:= .type "dict",data:= .dict #[]}) scope.names=h3 at J p ⊢;have u:ScR scope H:=⟨q1,λy h=>(q2 y h).1,q4,λy h=>q3 y _ h<|by simp⟩
 have ap:Step none1 σ s.heap σ1 h3:=E.trans<|.more p;have m3:Sim C σ1 h3:=m2.more p;have O:St 0 σ1 h3:=S.step (S:=none1) al (.more λb o e=>p b o<|k b o e) (λo0 o0 f=>f);have e1:W.heap.get? W.heap.objs.size=Jb:=gq _<|QA _;have e2:∀c,s2.heap.objs.size<=c->s.heap.get? c=Jb:=λc hc=>E.old m2<|gq _ hc;have Z:s2.heap.get? W.heap.objs.size=Ja (lstO #[] 0):=by rw[F];exact QN _ rfl
 have own:∀x∈tg.names,scope.names.lookup (Qb x)=Ja .local\/scope.names.lookup (Qb x)=Ja .cell:=qj ht;have V:=λ(s':Je) (B:s'={s2 with heap:=h3})=>rG (s:=s') (scope:=scope) (iter:=iter) (pos:=pos) (R:=compPost (Mo C) A Er use Q' (.ref W.heap.objs.size) H.locals) (s₀:=s) S ht
  (λx hx=>(own x hx).imp (q1 _) λh=>(q2 _ h).1)
  (λc hc=>by
   obtain⟨x,hx,w|w⟩:=hc
   ·rw[w.2,T];exact e2 _<|QA _
   ·rcases own x hx with h|h
    ·rw[q1 _ h] at w;cases w.1
    ·exact e2 _ ((q2 _ h).2 c w.2))
  (λb hb=>(G b hb).1) (P.old M e1) (M.freshB<|QA _)
  (λX=>by rw[T] at X;exact absurd (G _ X).2 (Kc.mpr<|by rw[z];exact WD _))
  (λx c hc X=>by
   rcases q5 x c hc with w|w
   ·exact absurd (G c X).2 (Kc.mpr<|Qv (by rw[z];exact WD _) w)
   ·obtain⟨o0,v,o,e,o0⟩:=ev.newC x c w;exact ns (((G c X).1).symm.trans e))
  (λX=>absurd (G _ X).2 (KH _)) ak ai (ad H u) (am H u)
  (λa r s4 av nn m4 an r4 aa af Y z' aj hq=>by
   obtain⟨mm,hn⟩:=z';have ao:H.locals≠W.heap.objs.size:=by rw[T,z];exact Nat.succ_ne_self _
   have nt:=gx aa (by simp);refine ah W.heap.objs.size (r.set W.heap.objs.size<|.list a) s4 H.locals ?_ (an.add _ (P.old M e1) ?_) r4 (by rw[T];exact e2 _<|QA _) (by rw[PH.set_ne _ _ ao];exact aj) (by rw[T];exact m2.freshB<|QA _) ⟨mm,hn⟩<|hq _ Y
   ·exact m4.adopt Y nt aa (M.freshB<|QA _) ⟨av,nn,rfl,af⟩
   ·induction w:σ W.heap.objs.size with
    |none=>rfl
    |some o=>obtain⟨o',w'⟩:=P.grow _ o w;exact ns ((M.fresh (QA _)).symm.trans w'))
  (σ1:=σ1) (by rw[B];exact O) (by rw[B];exact m3) (by rw[B];exact J) (by rw[B];exact ap) (by rw[B];exact r1.trans U) (by rw[B];exact p _ _ Z) (M.fresh<|QA _) au
 have as:(compE scope cl s2.heap.objs.size env).locals=H.locals:=by rw[T];rfl
 rw[as];exact codeAny_compStart_list (V _ rfl)<|S.self (σ:=σ1) (i:=0) O (V _ rfl)
theorem oZ
  {tst:Rho->PH->(Bool->PH->Prop)->Prop}{el:Rho->PH->Post->Prop}
  (J:EnvR C env T σ s.heap)(ak:AOK C n A l σ s.heap)(r:ScR sc env)(k:eW sc scope=Jc)(Z:ownOk tg scope=Jc)(F:mTg scope tg t=Jc)
  (H:∀x,JS iter env x=pure x)
  (w:jl C A env t iter σ s (λxs chk σ1=>f5 chk tg T tst el xs [] σ1 λa O=>wnew (.list a) O Q) (XP C none1 σ s X))
  (P:∀v,ScR scope v->∀ρ' σ' s' K,EnvR C v ρ' σ' s'.heap->Sim C σ' s'.heap->AOK C n A l σ' s'.heap->tst ρ' σ' K->∀E,Jh (Mo C) A (tests i v) (λk W=>∃j,A4 (Sim C j W.heap) (Step none1 σ' s'.heap j W.heap) (Rest s' W)<|K k j) E s')
  (S:∀v,ScR scope v->∀ρ' σ' s' Q,EnvR C v ρ' σ' s'.heap->Sim C σ' s'.heap->AOK C n A l σ' s'.heap->el ρ' σ' Q->∀E,Jh (Mo C) A (Jw g v) (VP C none1 σ' s' Q) E s'):
  EOK C A σ s (Jw (.ListComp g [⟨t,iter,i,0⟩] scope pos) env) Q X:=by
 show Jh _ _ _ _ _ _;rw[eval_ListComp];refine ql (use:=Jb) J ak r k Z F H w P S λD p u L M y I N Y U z' z=> ?_;obtain⟨m,b⟩:=z';refine⟨m,b,λR B=> ?_⟩;have mv:Mv (· =L) u.heap R:=λc o f e=>B.extBut c o f e;obtain⟨o,es,ep,V,d,o0⟩:=b;have G:Fok C p u.heap (· =L):=λc f=>by
  have f:c=L:=f;subst f;exact⟨U,.inl ⟨Y,iG V<|d6 d⟩⟩
 refine⟨.ref D,p,rfl,M.mv mv G (λc f q=>by have f:c=L:=f;subst f;exact ns<|Y.symm.trans q),y.mv mv (λc f=>by have f:c=L:=f;subst f;exact N),I,z⟩
end
noncomputable def uF(x:Jl):Nat->Prop
 |0=>X3 λc k p=>x= .Constant c k p
 |1=>∃y p,x= .Name y p
 |2=>X4 λl o r p=>x= .BinOp l o r p
 |3=>X3 λo y p=>x= .UnaryOp o y p
 |4=>X3 λo w p=>x= .BoolOp o w p
 |5=>X4 λl Q R p=>x= .Compare l Q R p
 |7=>X3 λs k p=>x= .Tuple s k p
 |8=>∃s p,x= .List s p
 |10=>X3 λu v p=>x= .Subscript u v p
 |11=>X4 λe g sc p=>x= .ListComp e g sc p
 |12=>X4 λf a F p=>x= .Call f a F p
 |13=>X3 λy z p=>x= .Attribute y z p
 |14=>X4 λV h t p=>x= .Slice V h t p
 |15=>X3 λi w p=>x= .Dict i w p
 |_=>True
theorem xinv(x:Jl):uF x (xk x):=by
 induction x using Expr.casesOn with
 |Constant c k p=>exact(⟨c,k,p,rfl⟩:X3 λc' k' p'=>Expr.Constant c k p= .Constant c' k' p')
 |Name y p=>exact(⟨y,p,rfl⟩:∃y' p',Expr.Name y p= .Name y' p')
 |BinOp l o r p=>exact(⟨l,o,r,p,rfl⟩:X4 λl' o' r' p'=>Expr.BinOp l o r p= .BinOp l' o' r' p')
 |UnaryOp o y p=>exact(⟨o,y,p,rfl⟩:X3 λo' y' p'=>Expr.UnaryOp o y p= .UnaryOp o' y' p')
 |BoolOp o vs p=>exact(⟨o,vs,p,rfl⟩:X3 λo' vs' p'=>Expr.BoolOp o vs p= .BoolOp o' vs' p')
 |Compare l os cs p=>exact(⟨l,os,cs,p,rfl⟩:X4 λl' os' cs' p'=>Expr.Compare l os cs p= .Compare l' os' cs' p')
 |Tuple es k p=>exact(⟨es,k,p,rfl⟩:X3 λes' k' p'=>Expr.Tuple es k p= .Tuple es' k' p')
 |List es p=>exact(⟨es,p,rfl⟩:∃es' p',Expr.List es p= .List es' p')
 |Subscript u v p=>exact(⟨u,v,p,rfl⟩:X3 λu' v' p'=>Expr.Subscript u v p= .Subscript u' v' p')
 |ListComp e gs sc p=>exact(⟨e,gs,sc,p,rfl⟩:X4 λe' gs' sc' p'=>Expr.ListComp e gs sc p= .ListComp e' gs' sc' p')
 |Call f as kw p=>exact(⟨f,as,kw,p,rfl⟩:X4 λf' as' kw' p'=>Expr.Call f as kw p= .Call f' as' kw' p')
 |Attribute y z p=>exact(⟨y,z,p,rfl⟩:X3 λy' z' p'=>Expr.Attribute y z p= .Attribute y' z' p')
 |Slice lo hi st p=>exact(⟨lo,hi,st,p,rfl⟩:X4 λlo' hi' st' p'=>Expr.Slice lo hi st p= .Slice lo' hi' st' p')
 |Dict ks vs p=>exact(⟨ks,vs,p,rfl⟩:X3 λks' vs' p'=>Expr.Dict ks vs p= .Dict ks' vs' p')
 |_=>exact True.intro
noncomputable def ut(x:Jo):Nat->Prop
 |0=>X3 λs v p=>x= .Assign s v p
 |1=>∃v p,x= .Expr v p
 |2=>∃v p,x= .Return v p
 |3=>X4 λu y z p=>x= .If u y z p
 |4=>X5 λt i y z p=>x= .For t i y z p
 |5=>X4 λt y z p=>x= .While t y z p
 |6=>X3 λv c p=>x= .Raise v c p
 |7=>X5 λy h z w p=>x= .Try y h z w p
 |_=>True
theorem sinv(x:Jo):ut x (sk x):=by
 induction x using Stmt.casesOn with
 |Assign ts v p=>exact(⟨ts,v,p,rfl⟩:X3 λts' v' p'=>Stmt.Assign ts v p= .Assign ts' v' p')
 |Expr v p=>exact(⟨v,p,rfl⟩:∃v' p',Stmt.Expr v p= .Expr v' p')
 |Return v p=>exact(⟨v,p,rfl⟩:∃v' p',Stmt.Return v p= .Return v' p')
 |If u y z p=>exact(⟨u,y,z,p,rfl⟩:X4 λu' y' z' p'=>Stmt.If u y z p= .If u' y' z' p')
 |For t i y z p=>exact(⟨t,i,y,z,p,rfl⟩:X5 λt' i' y' z' p'=>Stmt.For t i y z p= .For t' i' y' z' p')
 |While t y z p=>exact(⟨t,y,z,p,rfl⟩:X4 λt' y' z' p'=>Stmt.While t y z p= .While t' y' z' p')
 |Raise v c p=>exact(⟨v,c,p,rfl⟩:X3 λv' c' p'=>Stmt.Raise v c p= .Raise v' c' p')
 |Try y hs z w p=>exact(⟨y,hs,z,w,p,rfl⟩:X5 λy' hs' z' w' p'=>Stmt.Try y hs z w p= .Try y' hs' z' w' p')
 |_=>exact True.intro
theorem eC(h:(xk x==k&&b)=Jc):uF x k/\b=Jc:=by
 obtain⟨N,p⟩:=Qh.mp h;have:=xinv x;rw[beq_iff_eq.mp N] at this;exact⟨this,p⟩
theorem jS(h:(sk x==k&&b)=Jc):ut x k/\b=Jc:=by
 obtain⟨N,p⟩:=Qh.mp h;have:=sinv x;rw[beq_iff_eq.mp N] at this;exact⟨this,p⟩
theorem and2(h:(a&&b)=Jc):a=Jc/\b=Jc:=Qh.mp h
theorem and3(h:(a&&b&&c)=Jc):a=Jc/\b=Jc/\c=Jc:=⟨(and2 (and2 h).1).1,(and2 (and2 h).1).2,(and2 h).2⟩
theorem and4{a b c d:Bool}(h:(a&&b&&c&&d)=Jc):a=Jc/\b=Jc/\c=Jc/\d=Jc:=by obtain⟨N,p⟩:=and2 h;exact by obtain⟨J,w,B⟩:=and3 N;exact⟨J,w,B,p⟩
theorem and5{a b c d e:Bool}(h:(a&&b&&c&&d&&e)=Jc):a=Jc/\b=Jc/\c=Jc/\d=Jc/\e=Jc:=by obtain⟨N,p⟩:=and2 h;exact by obtain⟨J,w,B,W⟩:=and4 N;exact⟨J,w,B,W,p⟩
theorem and6{a b c d e f:Bool}(h:(a&&b&&c&&d&&e&&f)=Jc):a=Jc/\b=Jc/\c=Jc/\d=Jc/\e=Jc/\f=Jc:=by obtain⟨N,p⟩:=and2 h;exact by obtain⟨J,w,B,W,S⟩:=and5 N;exact⟨J,w,B,W,S,p⟩
theorem nmE(h:Vl.Internal.nm y x=Jc):y=Qb x:=beq_iff_eq.mp h
section
variable{sc:Jk}{x:Jl}{P:Jl->Prop}
theorem ij(h:hCst c x=Jc)(k:∀n p,P (.Constant c n p)):P x:=by
 obtain⟨⟨c,n,p,rfl⟩,h⟩:=eC (k:=0) (b:=tH _ x) h;obtain rfl:=Y6 h;exact k n p
theorem iU{f:Jq->Bool}(h:hName f y x=Jc)(k:∀p,f (Qb y)=Jc->bG (Qb y)=Jc->P (.Name (Qb y) p)):P x:=by
 obtain⟨⟨z,p,rfl⟩,h⟩:=eC (k:=1) (b:=qName f y x) h;have h:=and3 h;obtain rfl:=nmE h.1;exact k p h.2.1 h.2.2
theorem AT(h:hBin V f g x=Jc)(k:∀l o r p,mOp V o=Jc->f l=Jc->g r=Jc->P (.BinOp l o r p)):P x:=by
 obtain⟨⟨l,o,r,p,rfl⟩,h⟩:=eC (k:=2) (b:=qBin V f g x) h;have h:=and3 h;exact k l o r p h.1 h.2.1 h.2.2
theorem BO(h:(xk x==3&&qUn u f x)=Jc)(k:∀y p,f y=Jc->P (.UnaryOp u y p)):P x:=by
 obtain⟨⟨o,y,p,rfl⟩,h⟩:=eC h;have h:=and2 h;obtain rfl:=Y6 h.1;exact k y p h.2
theorem uH(h:(xk x==4&&qBool u f g x)=Jc)(k:∀y z p,f y=Jc->g z=Jc->P (.BoolOp u [y,z] p))(A:∀y z w r p,f y=Jc->g (.BoolOp u (z::w::r) p)=Jc->P (.BoolOp u (y::z::w::r) p)):P x:=by
 obtain⟨⟨o,v,p,rfl⟩,h⟩:=eC h
 rcases v with o0|⟨y,o0|⟨z,o0|⟨w,r⟩⟩⟩
 ·exact ft h
 ·exact ft h
 ·have h:=and2 h;obtain rfl:=Y6 h.1;exact k y z p (and2 h.2).1 (and2 h.2).2
 ·have h:=and2 h;obtain rfl:=Y6 h.1;exact A y z w r p (and2 h.2).1 (and2 h.2).2
theorem AL(h:(xk x==5&&qIs u f g x)=Jc)(k:∀l c p,f l=Jc->g c=Jc->P (.Compare l [u] [c] p)):P x:=by
 obtain⟨⟨l,s,F,p,rfl⟩,h⟩:=eC h
 rcases s with o0|⟨o,o0|⟨o0,o0⟩⟩<;>rcases F with _|⟨c,_|⟨_,_⟩⟩<;>first|exact ft h|skip
 have h:=and2 h;obtain rfl:=Y6 h.1;exact k l c p (and2 h.2).1 (and2 h.2).2
theorem gI(h:kz x=Jc):∀y p,x≠ .Starred y p:=by rintro y p rfl;exact ft h
theorem nt(h:(!b)=Jc):b=Jd:=(QS _).mp h
theorem Bj(h:hCmp V f g x=Jc)(k:∀l o r p,mC V o=Jc->f l=Jc->g r=Jc->JH o r=Jd->P (.Compare l [o] [r] p)):P x:=by
 obtain⟨⟨l,s,F,p,rfl⟩,h⟩:=eC (k:=5) (b:=qCmp V f g x) h
 rcases s with o0|⟨o,o0|⟨o0,o0⟩⟩<;>rcases F with _|⟨c,_|⟨_,_⟩⟩<;>first|exact ft h|skip
 have h:=and4 h;exact k l o c p h.1 h.2.1 h.2.2.1<|nt h.2.2.2
theorem yN(h:hCmp2 v u f g e x=Jc)(k:∀l o U m r p,mC v o=Jc->mC u U=Jc->f l=Jc->g m=Jc->e r=Jc->JH U r=Jd->P (.Compare l [o,U] [m,r] p)):P x:=by
 obtain⟨⟨l,s,c,p,rfl⟩,h⟩:=eC (k:=5) (b:=qCmp2 v u f g e x) h
 rcases s with o0|⟨o,o0|⟨U,o0|⟨o0,o0⟩⟩⟩<;>first|exact ft h|skip
 rcases c with o0|⟨m,o0|⟨r,o0|⟨o0,o0⟩⟩⟩<;>first|exact ft h|skip
 have h:=and6 h;exact k l o U m r p h.1 h.2.1 h.2.2.1 h.2.2.2.1 h.2.2.2.2.1<|nt h.2.2.2.2.2
theorem BD{f:List Jl->Bool}(h:hTup f x=Jc)(k:∀es n p,f es=Jc->es.length<=100->P (.Tuple es n p)):P x:=by
 obtain⟨⟨es,n,p,rfl⟩,h⟩:=eC (k:=7) (b:=qTup f x) h;exact k es n p (and2 h).1 (Y6 (and2 h).2)
theorem ui{f:List Jl->Bool}(h:hList f x=Jc)(k:∀es p,f es=Jc->es.length<=100->P (.List es p)):P x:=by
 obtain⟨⟨es,p,rfl⟩,h⟩:=eC (k:=8) (b:=qList f x) h;exact k es p (and2 h).1 (Y6 (and2 h).2)
theorem xV(h:hSub f g x=Jc)(k:∀u v p,f u=Jc->g v=Jc->P (.Subscript u v p)):P x:=by
 obtain⟨⟨u,v,p,rfl⟩,h⟩:=eC (k:=10) (b:=qSub f g x) h;exact k u v p (and2 h).1 (and2 h).2
theorem up{g:Jk->XB}(h:hComp sc tg f g x=Jc)(k:∀e t i s p,f i=Jc->mTg s tg t=Jc->g s e=Jc->eW sc s=Jc->ownOk tg s=Jc->P (.ListComp e [⟨t,i,[],0⟩] s p)):P x:=by
 obtain⟨⟨e,y,s,p,rfl⟩,h⟩:=eC (k:=11) (b:=qComp sc tg f g x) h
 rcases y with o0|⟨⟨t,i,o0|⟨o0,o0⟩,a⟩,o0|⟨o0,o0⟩⟩<;>first|exact ft h|skip
 have h:=and2 h;obtain rfl:=Y6 h.1;have h:=and5 h.2;exact k e t i s p h.1 h.2.1 h.2.2.1 h.2.2.2.1 h.2.2.2.2
theorem pd{g c:Jk->XB}(h:rr sc tg f g c x=Jc)(k:∀e t i z s p,f i=Jc->mTg s tg t=Jc->g s e=Jc->c s z=Jc->eW sc s=Jc->ownOk tg s=Jc->P (.ListComp e [⟨t,i,[z],0⟩] s p)):P x:=by
 obtain⟨⟨e,y,s,p,rfl⟩,h⟩:=eC (k:=11) (b:=qL sc tg f g c x) h
 rcases y with o0|⟨⟨t,i,o0|⟨z,o0|⟨o0,o0⟩⟩,a⟩,o0|⟨o0,o0⟩⟩<;>first|exact ft h|skip
 have h:=and2 h;obtain rfl:=Y6 h.1;have h:=and6 h.2;exact k e t i z s p h.1 h.2.1 h.2.2.1 h.2.2.2.1 h.2.2.2.2.1 h.2.2.2.2.2
theorem uh{g:List Jl->Bool}(h:hCl f g x=Jc)(k:∀y as p,f y=Jc->g as=Jc->P (.Call y as [] p)):P x:=by
 obtain⟨⟨y,as,w,p,rfl⟩,h⟩:=eC (k:=12) (b:=qCall f g x) h
 rcases w with o0|⟨o0,o0⟩
 ·exact k y as p (and2 h).1 (and2 h).2
 ·exact ft h
theorem tR{f:List Jl->Bool}(h:hCl (glb sc n) f x=Jc)(k:∀py as p,sc.names.lookup (Qb n)=Ja .globalImplicit->bG (Qb n)=Jc->f as=Jc->P (.Call (.Name (Qb n) py) as [] p)):P x:=
 uh h λy as p N Y=>by
  obtain⟨py,rfl,J,w⟩:=j1 N;exact k py as p J w Y
theorem wA{g:Pos->Bool}(h:hAt a f g x=Jc)(k:∀y p,f y=Jc->eP y=Jc->g p=Jc->P (.Attribute y (Qb a) p)):P x:=by
 obtain⟨⟨y,z,p,rfl⟩,h⟩:=eC (k:=13) (b:=qAttr a f g x) h;have h:=and4 h;obtain rfl:=nmE h.2.2.1;exact k y p h.1 h.2.1 h.2.2.2
theorem vW{g:List Jl->Bool}(h:hMc m f g x=Jc)(k:∀y as p q,f y=Jc->eP y=Jc->(p.endLine==q.line)=Jc->g as=Jc->P (.Call (.Attribute y (Qb m) p) as [] q)):P x:=by
 obtain⟨⟨u,as,w,q,rfl⟩,h⟩:=eC (k:=12) (b:=qMeth (λq=>hAt m f λp=>p.endLine==q.line) g x) h
 rcases w with o0|⟨o0,o0⟩
 ·have h:=and2 h;exact wA (P:=λu=>P<|.Call u as [] q) h.1 λy p N Y J=>k y as p q N Y J h.2
 ·exact ft h
theorem sP{Q:List Jl->Prop}(h:two2 f g l=Jc)(k:∀x y,f x=Jc->g y=Jc->Q [x,y]):Q l:=by
 rcases l with o0|⟨x,o0|⟨y,o0|⟨o0,o0⟩⟩⟩<;>first|exact ft h|exact k x y (and2 h).1 (and2 h).2
theorem x6(h:hEmp x=Jc)(k:∀p,P (.List [] p)):P x:=
 ui h λe p N o0=>by
  rcases e with o0|⟨o0,o0⟩
  ·exact k p
  ·exact ft N
theorem wk(h:tx x=Jc)(k:∀p,P (.Dict [] [] p)):P x:=by
 obtain⟨⟨s,v,p,rfl⟩,h⟩:=eC (k:=15) (b:=sC x) h
 rcases s with o0|⟨o0,o0⟩<;>rcases v with _|⟨_,_⟩<;>first|exact ft h|exact k p
end
section
variable{sc:Jk}{x:Jo}{P:Jo->Prop}
theorem nY(h:kAsg f g x=Jc)(k:∀t v pos,f t=Jc->g v=Jc->P (.Assign [t] v pos)):P x:=by
 obtain⟨⟨s,v,p,rfl⟩,h⟩:=jS (k:=0) (b:=rAsg f g x) h
 rcases s with o0|⟨t,o0|⟨o0,o0⟩⟩<;>first|exact ft h|exact k t v p (and2 h).1 (and2 h).2
theorem Ah(h:kAsg (hOwn sc y) f x=Jc)(k:∀z v pos,mTg sc (.name y) (.Name (Qb y) z)=Jc->f v=Jc->P (.Assign [.Name (Qb y) z] v pos)):P x:=
 nY h λt v pos N J=>iU (P:=λt=>P<|.Assign [t] v pos) N λp w B=>k p v pos (by show(Vl.Internal.nm _ _&&isOwn sc _&&bG _)=Jc;rw[w,B,Yl,Yl];exact beq_self_eq_true _) J
theorem Bb(h:kAsg (hTupT (eF sc xs)) f x=Jc)(k:∀es a b v pos,mTg sc (.tup xs) (.Tuple es a b)=Jc->f v=Jc->P (.Assign [.Tuple es a b] v pos)):P x:=
 nY h λt v pos N J=>by
  obtain⟨⟨es,a,b,rfl⟩,N⟩:=eC (k:=7) (b:=qTupT (eF sc xs) t) N;exact k es a b v pos N J
theorem Aw(h:kExpr f x=Jc)(k:∀v pos,f v=Jc->P (.Expr v pos)):P x:=by
 obtain⟨⟨v,p,rfl⟩,h⟩:=jS (k:=1) (b:=rExpr f x) h;exact k v p h
theorem Ba(h:kRet f x=Jc)(k:∀v pos,f v=Jc->P (.Return (Ja v) pos)):P x:=by
 obtain⟨⟨v,p,rfl⟩,h⟩:=jS (k:=2) (b:=rRet f x) h
 rcases v with o0|v
 ·exact ft h
 ·exact k v p h
theorem BJ(h:kIf f g e x=Jc)(k:∀u y z pos,f u=Jc->g y=Jc->e z=Jc->P (.If u y z pos)):P x:=by
 obtain⟨⟨u,y,z,p,rfl⟩,h⟩:=jS (k:=3) (b:=rIf f g e x) h;have h:=and3 h;exact k u y z p h.1 h.2.1 h.2.2
theorem AB(h:kFor f g e x=Jc)(k:∀t i y pos,f t=Jc->g i=Jc->e y=Jc->P (.For t i y [] pos)):P x:=by
 obtain⟨⟨t,i,y,z,p,rfl⟩,h⟩:=jS (k:=4) (b:=rFor f g e x) h
 rcases z with o0|⟨o0,o0⟩
 ·have h:=and3 h;exact k t i y p h.1 h.2.1 h.2.2
 ·exact ft h
theorem xj(h:sU f e x=Jc)(k:∀u y pos,f u=Jc->e y=Jc->P (.While u y [] pos)):P x:=by
 obtain⟨⟨u,y,z,p,rfl⟩,h⟩:=jS (k:=5) (b:=ub f e x) h
 rcases z with o0|⟨o0,o0⟩
 ·exact k u y p (and2 h).1 (and2 h).2
 ·exact ft h
theorem w0(h:t5 f x=Jc)(k:∀v pos,f v=Jc->P (.Raise (Ja v) Jb pos)):P x:=by
 obtain⟨⟨v,c,pos,rfl⟩,h⟩:=jS (k:=6) (b:=uR f x) h
 rcases v with o0|v<;>rcases c with _|_<;>first|exact ft h|exact k v pos h
theorem yL(h:kTry f (rH1 (rHd sc c g)) x=Jc)(k:∀y t R r p pos,f y=Jc->glb sc c t=Jc->g (R::r)=Jc->P (.Try y [.ExceptHandler (Ja t) Jb (R::r) p] [] [] pos)):P x:=by
 obtain⟨⟨y,s,z,w,p,rfl⟩,h⟩:=jS (k:=7) (b:=rTry f (rH1<|rHd sc c g) x) h
 rcases z with o0|⟨o0,o0⟩<;>rcases w with _|⟨_,_⟩<;>rcases s with _|⟨⟨t,n,b,q⟩,_|⟨_,_⟩⟩<;>first|exact ft h|exact ft (and2 h).2|skip
 have h:=and2 h
 rcases t with o0|t<;>rcases b with _|⟨R,r⟩<;>first|exact ft h.2|skip
 have Y:=and3 h.2
 rcases n with o0|n
 ·exact k y t R r q p h.1 Y.1 Y.2.2
 ·exact ft Y.2.1
end
section
set_option backward.match.sparseCases true
inductive BP(C:Cx)(σ:PH)(s:Je)(K:Bool->PH->Prop)(b:Bool)(s1:Je):Prop
 |mk (σ1:PH) (m:Sim C σ1 s1.heap) (st:Step none1 σ s.heap σ1 s1.heap) (r:Rest s s1) (k:K b σ1):BP C σ s K b s1
structure At(C:Cx)(n:Nat)(sc:Jk)(env:Js)(ρ:Rho)(A:Jj)(l:List Js)(σ:PH)(s:Je):Prop where
 sr:ScR sc env
 ev:EnvR C env ρ σ s.heap
 m:Sim C σ s.heap
 ak:AOK C n A l σ s.heap
theorem At.step{s W:Je}(I:At C n sc env L A l σ s)(st:Step none1 σ s.heap σ1 W.heap)(m:Sim C σ1 W.heap):At C n sc env L A l σ1 W:=⟨I.sr,I.ev.step st,m,I.ak.step st⟩
def EvOK(C:Cx)(G:Gx)(n:Nat)(sc:Jk)(e:E)(x:Jl):Prop:=∀ {F:Js} {L:Rho} {A:Jj} {l:List Js} {σ:PH} {s:Je} {Q:Post} {X:XPost},
 At C n sc F L A l σ s->we G (aO C n) e L σ Q X->EOK C A σ s (Jw x F) Q X
def TsOK(C:Cx)(G:Gx)(n:Nat)(sc:Jk)(e:E)(x:Jl):Prop:=∀ {F:Js} {L:Rho} {A:Jj} {l:List Js} {σ:PH} {s:Je} {K:Bool->PH->Prop} {X:XPost},
 At C n sc F L A l σ s->we G (aO C n) e L σ (λv m=>c3 (λb=>K b m) v) X->Jh (Mo C) A (Y3 x F<|eval x F) (BP C σ s K) (XP C none1 σ s X) s
noncomputable def Evs(C:Cx)(G:Gx)(n:Nat)(sc:Jk):List E->List Jl->Prop
 |[],P=>P=[]
 |e::U,P=>X2 λx r=>A4 (P=x::r) (kz x=Jc) (EvOK C G n sc e x)<|Evs C G n sc U r
section
variable{C:Cx}{G:Gx}{mg mb:Jq->Option Jf}{n:Nat}{A:Jj}{σ:PH}{s:Je}{X:XPost}
theorem EOK.seq{R:Jf->Je->Prop}{W:Je}(h:EOK C A σ1 W t Q' X)(st:Step none1 σ s.heap σ1 W.heap)(r:Rest s W)
  (k:∀v J p O,VR C O J.heap p v->Sim C O J.heap->Step none1 σ s.heap O J.heap->Step none1 σ1 W.heap O J.heap->Rest s J->Q' p O->R v J):Jh (Mo C) A t R (XP C none1 σ s X) W:=
 YF h (λv J M=>by obtain⟨p,O,a,b,c,d,e⟩:=M;exact k v J p O a b (st.trans c) c (r.trans d) e) λo0 o0 x=>XP.from st r x
theorem EOKs.seq{Q':List PV->PH->Prop}{R:List Jf->Je->Prop}{W:Je}(h:EOKs C A σ1 W t Q' X)(st:Step none1 σ s.heap σ1 W.heap)(r:Rest s W)
  (k:∀v J p O,VRs C O J.heap p v->Sim C O J.heap->Step none1 σ s.heap O J.heap->Step none1 σ1 W.heap O J.heap->Rest s J->Q' p O->R v J):Jh (Mo C) A t R (XP C none1 σ s X) W:=
 YF h (λv J M=>by obtain⟨p,O,a,b,c,d,e⟩:=M;exact k v J p O a b (st.trans c) c (r.trans d) e) λo0 o0 x=>XP.from st r x
theorem VP.to0{W:Je}{Er:Jf->Je->Prop}(st:Step none1 σ s.heap σ1 W.heap)(r:Rest s W)(h:Jh (Mo C) A t (VP C none1 σ1 W Q) (λo0 o0=>False) W):Jh (Mo C) A t (VP C none1 σ s Q) Er W:=
 YF h (λo0 o0 x=>VP.from st r x) λo0 o0 x=>x.elim
structure Todo(C:Cx)(G:Gx)(n:Nat):Prop where
 attr:∀ {sc x f q p},isLoc sc (Qb x)=Jc->bG (Qb x)=Jc->EvOK C G n sc (.attr x f) (.Attribute (.Name (Qb x) q) (Qb f) p)
 mcall:∀ {sc c f o args y as p q},EvOK C G n sc o y->eP y=Jc->(p.endLine==q.line)=Jc->Evs C G n sc args as->as.length<=20->bN f=Jd->cOf f=c->EvOK C G n sc (.mcall c f o args) (.Call (.Attribute y (Qb<|mOf f) p) as [] q)
theorem AOK.u100(a:AOK C n A l σ h):A.units+100<cLine:=by have:=a.units;exact zl (Kh (QO _ _)<|by decide) this
theorem dX{R:Bool->Je->Prop}{Er:Jf->Je->Prop}(h:R b s):Jh (Mo C) A (Ju (.bool b)) R Er s:=wpAny_truthy_bool h
theorem wq{K:Bool->Prop}(hv:VR C σ h p v)(w:c3 K p):∃b,v= .bool b/\K b:=by
 obtain⟨b,rfl,w⟩:=kI w;exact⟨b,hv,w⟩
theorem w7{x:Jl}(hx:∀env,Y3 x env (Jw x env)=(do let v<-Jw x env;standAt x.pos;holding [v] (Ju v)))(h:EvOK C G n sc e x):TsOK C G n sc e x:=by
 intro env ρ A l σ s K X I w;refine wpAny_isTrue_value (EOK.then (h I w) λv s1 p σ1 hv m1 st1 r1 q=> ?_)<|hx env;obtain⟨b,rfl,q⟩:=wq hv q;exact dX ⟨σ1,m1,st1,r1,q⟩
theorem VP.now(I:At C n sc env L A l σ s)(hv:VR C σ s.heap p v)(q:Q p σ):VP C none1 σ s Q v s:=VP.here I.m rfl ⟨rfl,rfl⟩ hv q
section
variable{sc:Jk}{a b c:E}{u v z:Jl}{p:Pos}{k:Nat}
theorem xA:EvOK C G n sc .none (.Constant .none k p):=λI w=>JK<|VP.now I mq w
theorem vF{b:Bool}:EvOK C G n sc (.bool b) (.Constant (.bool b) k p):=λI w=>wpAny_Constant_bool<|VP.now I fk w
theorem yF{b:Int}:EvOK C G n sc (.int b) (.Constant (.int b) k p):=λI w=>wpAny_Constant_int<|VP.here I.m rfl ⟨rfl,rfl⟩ (d5 _) w
theorem z0{b:String}:EvOK C G n sc (.str b) (.Constant (.str (Qb b)) k p):=λI w=>wpAny_Constant_str (VP.here (p:= .str b) I.m rfl ⟨rfl,rfl⟩ ⟨_,rfl⟩ w)
theorem jL{env:Js}(r:ScR sc env)(h:isLoc sc y=Jc):isLoc env.scope y=Jc:=by
 have:∀k,env.kindOf y=Ja k->(k= .local\/k= .cell\/k= .free)->isLoc env.scope y=Jc:=λk M Z=>by
  have M:env.scope.names.lookup y=Ja k:=M;unfold isLoc;rw[M];rcases Z with rfl|rfl|rfl<;>rfl
 rcases lK h with q|q|q
 ·exact this _ (r.loc y q)<|.inl rfl
 ·exact this _ (r.cell y q)<|.inr (.inl rfl)
 ·rcases r.free y q with q|q
  ·exact this _ q<|.inr (.inl rfl)
  ·exact this _ q<|.inr (.inr rfl)
theorem yh{b:String}(h:isLoc sc (Qb b)=Jc)(Y:bG (Qb b)=Jc):EvOK C G n sc (.loc b) (.Name (Qb b) p):=λI w=>by
 obtain⟨v,e,w⟩:=jC w;exact k4 I.ev (jL I.sr h) Y e λK hv=>VP.now I hv w
theorem wz(g:GOK C G mg mb){b:String}(h:l7 sc (Qb b)=Jc)(Y:bG (Qb b)=Jc):EvOK C G n sc (.glob b) (.Name (Qb b) p):=λI w=>by
 obtain⟨v,e,w⟩:=jC w;obtain⟨K,T,F⟩:=g.glob b v e;exact im g I.ev I.m (I.sr.glob _<|eq_of_beq h) Y T<|VP.now I (F _ _) w
theorem ze(N:mOp e o=Jc)(H:EvOK C G n sc a u)(R:EvOK C G n sc b v):EvOK C G n sc (.bin e a b) (.BinOp u o v p):=λI w=>
 wpAny_BinOp (EOK.then (H I w) λW q M T K m t f w=>
  EOK.seq (R (I.step t m) w) t f λx J U O h F V i r w=>VP.to0 V r (Aj N F (K.step i) h w))
theorem yX(T:EvOK C G n sc a u):EvOK C G n sc (.not_ a) (.UnaryOp .Not u p):=λI w=>
 wpAny_UnaryOp (EOK.then (T I w) λf W o m h e t r w=>by
  obtain⟨b,rfl,w⟩:=wq h w;exact VP.to0 t r (not_value (dX (VP.here e rfl ⟨rfl,rfl⟩ fk w))))
theorem xt(h:TsOK C G n sc a u):TsOK C G n sc (.not_ a) (.UnaryOp .Not u p):=λ{F L A l σ s K X} I w=>
 wpAny_isTrue_Not (YF (h (K:=λb m=>K (!b) m) I w) (λb W x=>by obtain⟨a,b,c,d,e⟩:=x;exact⟨a,b,c,d,e⟩) λo0 o0 x=>x)
theorem vp{Q Er:Jf->Je->Prop}
  (h:Jh (Mo C) A (Jw x env) (λv s₁=>Jh (Mo C) A (Ju v) (λt s₂=>if t then Jh (Mo C) A (Jw (.BoolOp .And (y::z::r) pos) env) Q Er s₂ else Q v s₂) Er s₁) Er s):
  Jh (Mo C) A (Jw (.BoolOp .And (x::y::z::r) pos) env) Q Er s:=by
 show Jh (Mo C) A (do
  let v<-Jw x env
  standAt pos
  let t<-holding [v] (Ju v)
  match BoolOp.And,t with
  | .And,Jd| .Or,Jc=>pure v
  |_,_=>boolOp pos .And (Jw y env::Jw z env::evalEach r env)) Q Er s
 refine YD<|YF h (λv s₁ h₁=>YD<|YI (YD<|YH (YF h₁ (λt s₂ h₂=> ?_) λo0 o0 x=>x))) λo0 o0 x=>x
 induction t with
 |false=>exact YE h₂
 |true=>exact h₂
theorem wF{Q Er:Jf->Je->Prop}
  (h:Jh (Mo C) A (Jw x env) (λv s₁=>Jh (Mo C) A (Ju v) (λt s₂=>if t then Q v s₂ else Jh (Mo C) A (Jw (.BoolOp .Or (y::z::r) pos) env) Q Er s₂) Er s₁) Er s):
  Jh (Mo C) A (Jw (.BoolOp .Or (x::y::z::r) pos) env) Q Er s:=by
 show Jh (Mo C) A (do
  let v<-Jw x env
  standAt pos
  let t<-holding [v] (Ju v)
  match BoolOp.Or,t with
  | .And,Jd| .Or,Jc=>pure v
  |_,_=>boolOp pos .Or (Jw y env::Jw z env::evalEach r env)) Q Er s
 refine YD<|YF h (λv s₁ h₁=>YD<|YI (YD<|YH (YF h₁ (λt s₂ h₂=> ?_) λo0 o0 x=>x))) λo0 o0 x=>x
 induction t with
 |false=>exact h₂
 |true=>exact YE h₂
theorem rt(H:EvOK C G n sc a u)(R:EvOK C G n sc b v)(I:At C n sc env L A l σ s)(w:we G (aO C n) (.and_ a b) L σ Q X):
  Jh (Mo C) A (Jw u env) (λx m=>Jh (Mo C) A (Ju x) (λt j=>if t then Jh (Mo C) A (Jw v env) (VP C none1 σ s Q) (XP C none1 σ s X) j else VP C none1 σ s Q x j) (XP C none1 σ s X) m) (XP C none1 σ s X) s:=
 EOK.then (H I w) λf W o T h e P r w=>by
  obtain⟨b,rfl,w⟩:=wq h w;refine dX ?_
  induction b with
  |true=>exact EOK.after P r<|R (I.step P e) w
  |false=>exact VP.from P r<|VP.here e rfl ⟨rfl,rfl⟩ fk w
theorem uU(H:EvOK C G n sc a u)(R:EvOK C G n sc b v)(I:At C n sc env L A l σ s)(w:we G (aO C n) (.or_ a b) L σ Q X):
  Jh (Mo C) A (Jw u env) (λx m=>Jh (Mo C) A (Ju x) (λt j=>if t then VP C none1 σ s Q x j else Jh (Mo C) A (Jw v env) (VP C none1 σ s Q) (XP C none1 σ s X) j) (XP C none1 σ s X) m) (XP C none1 σ s X) s:=
 EOK.then (H I w) λf W o T h e P r w=>by
  obtain⟨b,rfl,w⟩:=wq h w;refine dX ?_
  induction b with
  |false=>exact EOK.after P r<|R (I.step P e) w
  |true=>exact VP.from P r<|VP.here e rfl ⟨rfl,rfl⟩ fk w
theorem BP.from{σ1:PH}{W:Je}{K:Bool->PH->Prop}{b:Bool}{J:Je}(st:Step none1 σ s.heap σ1 W.heap)(r:Rest s W)(x:BP C σ1 W K b J):BP C σ s K b J:=
 by obtain⟨O,a,b,c,d⟩:=x;exact⟨O,a,st.trans b,r.trans c,d⟩
theorem BP.after{W:Je}{K:Bool->PH->Prop}(st:Step none1 σ s.heap σ1 W.heap)(r:Rest s W)(h:Jh (Mo C) A t (BP C σ1 W K) (XP C none1 σ1 W X) W):
  Jh (Mo C) A t (BP C σ s K) (XP C none1 σ s X) W:=YF h (λo0 o0 x=>BP.from st r x) λo0 o0 x=>XP.from st r x
def Goes(C:Cx)(A:Jj)(t e:Sem Bool):Prop:=∀ (R:Bool->Je->Prop) (E:Jf->Je->Prop) (g:Je),Jh (Mo C) A e R E g->Jh (Mo C) A t R E g
theorem qZ{K:Bool->PH->Prop}(H:TsOK C G n sc a u)(R:TsOK C G n sc b v)(I:At C n sc env L A l σ s)(w:we G (aO C n) (.and_ a b) L σ (λv σ1=>c3 (λb=>K b σ1) v) X)(W:Goes C A t (Y3 v env (Jw v env))):
  Jh (Mo C) A (Y3 u env<|eval u env) (λb m=>if b then Jh (Mo C) A t (BP C σ s K) (XP C none1 σ s X) m else BP C σ s K Jd m) (XP C none1 σ s X) s:=
 YF (H (K:=λT σ1=>if T then we G (aO C n) b L σ1 (λv σ1=>c3 (λb=>K b σ1) v) X else K Jd σ1) I w) (λT O h=>by
  obtain⟨σ1,e,P,r,w⟩:=h
  induction T with
  |true=>exact W _ _ _<|BP.after P r (R (I.step P e) w)
  |false=>exact⟨σ1,e,P,r,w⟩) λo0 o0 x=>x
theorem vh{K:Bool->PH->Prop}(H:TsOK C G n sc a u)(R:TsOK C G n sc b v)(I:At C n sc env L A l σ s)(w:we G (aO C n) (.or_ a b) L σ (λv σ1=>c3 (λb=>K b σ1) v) X)(W:Goes C A t (Y3 v env (Jw v env))):
  Jh (Mo C) A (Y3 u env<|eval u env) (λb m=>if b then BP C σ s K Jc m else Jh (Mo C) A t (BP C σ s K) (XP C none1 σ s X) m) (XP C none1 σ s X) s:=
 YF (H (K:=λT σ1=>if T then K Jc σ1 else we G (aO C n) b L σ1 (λv σ1=>c3 (λb=>K b σ1) v) X) I w) (λT O h=>by
  obtain⟨σ1,e,P,r,w⟩:=h
  induction T with
  |false=>exact W _ _ _<|BP.after P r (R (I.step P e) w)
  |true=>exact⟨σ1,e,P,r,w⟩) λo0 o0 x=>x
theorem zp(T:EvOK C G n sc a u/\TsOK C G n sc a u)(H:EvOK C G n sc b v/\TsOK C G n sc b v):EvOK C G n sc (.and_ a b) (.BoolOp .And [u,v] p)/\TsOK C G n sc (.and_ a b) (.BoolOp .And [u,v] p):=
 ⟨λI w=>wpAny_And2 (rt T.1 H.1 I w),λI w=>JZ (J7 (qZ T.2 H.2 I w λR E g h=>J7 (YF h (λb W H=>by
  induction b with
  |true=>exact wpAny_allTrue_And_nil H
  |false=>exact H) λo0 o0 x=>x)))⟩
theorem v6(T:EvOK C G n sc a u/\TsOK C G n sc a u)(H:EvOK C G n sc b (.BoolOp .And (v::z::r) p)/\TsOK C G n sc b (.BoolOp .And (v::z::r) p)):EvOK C G n sc (.and_ a b) (.BoolOp .And (u::v::z::r) p)/\TsOK C G n sc (.and_ a b) (.BoolOp .And (u::v::z::r) p):=
 ⟨λI w=>vp<|rt T.1 H.1 I w,λI w=>JZ<|wpAny_allTrue_And_cons (qZ T.2 H.2 I w λR E g h=>h)⟩
theorem AK(T:EvOK C G n sc a u/\TsOK C G n sc a u)(H:EvOK C G n sc b v/\TsOK C G n sc b v):EvOK C G n sc (.or_ a b) (.BoolOp .Or [u,v] p)/\TsOK C G n sc (.or_ a b) (.BoolOp .Or [u,v] p):=
 ⟨λI w=>wpAny_Or2 (uU T.1 H.1 I w),λI w=>JZ (YL (vh T.2 H.2 I w λR E g h=>YL (YF h (λb W H=>by
  induction b with
  |true=>exact H
  |false=>exact wpAny_allTrue_Or_nil H) λo0 o0 x=>x)))⟩
theorem yx(T:EvOK C G n sc a u/\TsOK C G n sc a u)(H:EvOK C G n sc b (.BoolOp .Or (v::z::r) p)/\TsOK C G n sc b (.BoolOp .Or (v::z::r) p)):EvOK C G n sc (.or_ a b) (.BoolOp .Or (u::v::z::r) p)/\TsOK C G n sc (.or_ a b) (.BoolOp .Or (u::v::z::r) p):=
 ⟨λI w=>wF<|uU T.1 H.1 I w,λI w=>JZ<|wpAny_allTrue_Or_cons (vh T.2 H.2 I w λR E g h=>h)⟩
theorem jd{σ:PH}{h:Ji}{p:PV}{v:Jf}(hv:VR C σ h p v):(v==Value.none)=p.isNone:=by
 induction p using PV.casesOn with
 |none=>rw[show v=_ from hv];rfl
 |bool=>rw[show v=_ from hv];rfl
 |int=>obtain⟨t,rfl⟩:=hv;rfl
 |str=>obtain⟨t,rfl⟩:=hv;rfl
 |tup=>obtain⟨a,o0,o0,rfl,o0⟩:=hv;rfl
 |ref=>rw[show v=_ from hv];rfl
 |scr=>obtain⟨a,o0,o0,o0,rfl,o0⟩:=hv;rfl
theorem r6(T:EvOK C G n sc a u):EvOK C G n sc (.isNone a) (.Compare u [.Is] [.Constant .none k q] p):=λI w=>
 wpAny_Compare1 (EOK.then (T I w) λf W o m h e t r w=>JK<|is_none (by rw[jd h];exact⟨.bool _,m,rfl,e,t,r,w⟩))
theorem pD(T:EvOK C G n sc a u):TsOK C G n sc (.isNone a) (.Compare u [.Is] [.Constant .none k q] p):=λI w=>
 YM (EOK.then (T I w) λf W o m h e t r w=>JK<|is_none (dX<|by rw[jd h];exact⟨m,e,t,r,w⟩))
theorem qf(T:EvOK C G n sc a u):EvOK C G n sc (.notNone a) (.Compare u [.IsNot] [.Constant .none k q] p):=λI w=>
 wpAny_Compare1 (EOK.then (T I w) λf W o m h e t r w=>JK<|isNot_none (by rw[jd h];exact⟨.bool _,m,rfl,e,t,r,w⟩))
theorem nP(T:EvOK C G n sc a u):TsOK C G n sc (.notNone a) (.Compare u [.IsNot] [.Constant .none k q] p):=λI w=>
 YM (EOK.then (T I w) λf W o m h e t r w=>JK<|isNot_none (dX<|by rw[jd h];exact⟨m,e,t,r,w⟩))
theorem iD{W:Je}{K:PV->Bool->PH->Prop}{R:Jf->Jf->Je->Prop}(N:mC g o=Jc)(S:EvOK C G n sc b v)(I:At C n sc env L A l σ1 W)(P:Step none1 σ s.heap σ1 W.heap)(m:Rest s W)(Q:VR C σ1 W.heap M J)
  (w:we G (aO C n) b L σ1 (λq O=>wcmp g M q O<|K q) X)(D:∀T r H σ3 Z,VR C σ3 Z.heap r H->Sim C σ3 Z.heap->Step none1 σ s.heap σ3 Z.heap->Rest s Z->K r T σ3->R H (.bool T) Z):
  Jh (Mo C) A (Jw v env) (λy j=>Jh (Mo C) A (YS o J y) (R y) (XP C none1 σ s X) j) (XP C none1 σ s X) W:=
 EOK.seq (S I w) P m λH s2 r O f Y V t d w=>YF (yD N Y I.ak.u100 (Q.step t) f w) (λv Z h=>by
  obtain⟨B,σ3,U,F,e,E,T,rfl,i⟩:=h;rw[show v= .bool T from U];exact D T r H σ3 Z (f.step e) F (V.trans e) (d.trans E) i) λo0 o0 x=>x
theorem zj(N:mC V o=Jc)(O:JH o v=Jd)(H:EvOK C G n sc a u)(g:EvOK C G n sc b v):EvOK C G n sc (.cmp V a b) (.Compare u [o] [v] p)/\TsOK C G n sc (.cmp V a b) (.Compare u [o] [v] p):=
 ⟨λ{e L A l σ s Q X} I w=>wpAny_Compare1 (EOK.then (H I w) λf W j T h m t r w=>iD (R:=λo0=>VP C none1 σ s Q) N g (I.step t m) t r h w λM U F D Z o0 J y d q=>⟨.bool M,D,rfl,J,y,d,q⟩) O,
  λ{e L A l σ s K X} I w=>YM (EOK.then (H I w) λf W j T h m t r w=>iD (R:=λo0 c Z=>Jh (Mo C) A (Ju c) (BP C σ s K) (XP C none1 σ s X) Z) N g (I.step t m) t r h w λM U F D Z o0 J y d q=>dX ⟨D,J,y,d,q⟩) O⟩
theorem kP(h:JH U r=Jd):lastMarks [o,U] [f,r]=Jd:=by
 simpa [lastMarks] using h
theorem wl(N:mC o M=Jc)(Y:mC m r=Jc)(W:JH r z=Jd)(H:EvOK C G n sc a u)(g:EvOK C G n sc b v)(Z:EvOK C G n sc c z):EvOK C G n sc (.cmp2 a o b m c) (.Compare u [M,r] [v,z] p):=λ{e ρ A l σ s Q X} I w=>
 PyProof.Rows.Compare_chain (EOK.then (H I w) λU V F O K L P f w=>PyProof.Rows.chain_link (iD N g (I.step P L) P f K w λT q2 v2 D s3 h J t y w=>dX (by
  induction T with
  |false=>exact⟨.bool Jd,D,rfl,J,t,y,w⟩
  |true=>exact PyProof.Rows.chain_last (iD (R:=λo0=>VP C none1 σ s Q) Y Z (I.step t J) t y h w λT E S i j o0 d x B q=>⟨.bool T,i,rfl,d,x,B,q⟩)))) (kP W)
theorem uz(N:mC o M=Jc)(Y:mC m r=Jc)(W:JH r z=Jd)(S:EvOK C G n sc a u)(U:EvOK C G n sc b v)(g:EvOK C G n sc c z):TsOK C G n sc (.cmp2 a o b m c) (.Compare u [M,r] [v,z] p):=λ{e ρ A l σ s K X} I w=>
 PyProof.Rows.isTrue_chain (EOK.then (S I w) λV s1 F O x Q P f w=>PyProof.Rows.test_link (iD N U (I.step P Q) P f x w λT q2 v2 D Z h J t y w=>dX (by
  induction T with
  |false=>exact⟨D,J,t,y,w⟩
  |true=>exact PyProof.Rows.test_last (iD (R:=λo0 c Z=>Jh (Mo C) A (Ju c) (BP C σ s K) (XP C none1 σ s X) Z) Y g (I.step t J) t y h w λT E L i j o0 d H B q=>dX ⟨i,d,H,B,q⟩)))) (kP W)
end
end
end
theorem zf(h:kz x=Jc)(env:Js):∀v,JS x env v=pure v:=by
 intro v
 induction x using Expr.casesOn with
 |Set es k p=>exact ft h
 |_=>rfl
section
variable{C:Cx}{G:Gx}{mg mb:Jq->Option Jf}{n:Nat}
theorem Evs.plain:∀ {es:List E} {xs:List Jl},Evs C G n sc es xs->d8 xs=Jc
 |[],_=>λh=>by rw[show _=[] from h];rfl
 |_::_,_=>λh=>by
  obtain⟨x,r,rfl,N,o0,J⟩:=h;exact iS (gI N)<|Evs.plain J
theorem Evs.length:∀ {es:List E} {xs:List Jl},Evs C G n sc es xs->xs.length=es.length
 |[],_=>λh=>by rw[show _=[] from h];rfl
 |_::_,_=>λh=>by
  obtain⟨x,r,rfl,o0,o0,J⟩:=h;exact Ub (· +1)<|Evs.length J
theorem jD:∀ {es:List E} {xs:List Jl} {σ:PH} {s:Je} {Q:List PV->PH->Prop},
  Evs C G n sc es xs->At C n sc env L A l σ s->wes G (aO C n) es L σ Q X->EOKs C A σ s (spliced<|backTo pos (JE xs env)) (λps σ1=>ps.length=es.length/\Q ps σ1) X
 |[],_,σ,s,Q=>λh I w=>by
  rw[show _=[] from h];exact Calls.spliced_nil ⟨[],σ,rfl,I.m,.refl _ _ _,⟨rfl,rfl⟩,rfl,w⟩
 |e::es,_,σ,s,Q=>λh I w=>by
  obtain⟨x,r,rfl,N,Y,J⟩:=h;rw[dc (gI N)];show Jh _ _ (spliced ((Jd,Jw x env)::JY pos (JE r env))) _ _ s;refine Calls.spliced_cons (EOK.then (Y I w) λf W j σ1 K B t m w=> ?_);refine EOKs.seq (jD J (I.step t B) w) t m λD R ps O T F o i M w=> ?_;exact⟨j::ps,O,⟨f,D,rfl,K.step i,T⟩,F,o,M,Ub (· +1) w.1,w.2⟩
section
variable{sc:Jk}{a b:E}{es:List E}{u v:Jl}{xs:List Jl}{p:Pos}{k:Nat}
theorem yA(h:Evs C G n sc es xs)(Y:xs.length<=100):EvOK C G n sc (.tup es) (.Tuple xs k p):=λI w=>
 wpAny_Tuple_spliced (YF (jD h I w) (λJ W T=>by
  obtain⟨t,m,hv,B,s,f,o,w⟩:=T;refine⟨?_,VP.from s f (VP.allocTup (vs:=J.toArray) (n:=0) B rfl ⟨rfl,rfl⟩ hv w)⟩;rw[hv.length,o,<-h.length];exact Qv Y (by decide)) λo0 o0 x=>x)
theorem wt(h:Evs C G n sc es xs)(Y:xs.length<=100):EvOK C G n sc (.list es) (.List xs p):=λI w=>
 wpAny_List_spliced (YF (jD h I w) (λJ W T=>by
  obtain⟨t,m,hv,B,s,f,g,w⟩:=T;refine⟨?_,VP.from s f (VP.alloc (o:= .list t) B rfl ⟨rfl,rfl⟩ rfl ⟨J.toArray,0,rfl,hv⟩ w)⟩;rw[hv.length,g,<-h.length];exact Qv Y (by decide)) λo0 o0 x=>x)
theorem Aa(H:EvOK C G n sc a u)(S:EvOK C G n sc b v):EvOK C G n sc (.sub a b) (.Subscript u v p):=λI w=>by
 refine PyProof.Rows.Subscript_ (EOK.then (H I w) λf W X g K Q s Y w=> ?_);refine EOK.seq (S (I.step s Q) w) s Y λz D U O h m o t R j=> ?_;refine VP.to0 o R ?_
 rcases j with j|j
 ·obtain⟨r,i,N,rfl,e,J⟩:=ip j;obtain⟨k,M,d⟩:=i4 J;obtain⟨q,T,B⟩:=jC d;rw[show f= .ref r from K];exact vy I.ak.u100 m e h M T B
 obtain⟨k,F,j,B⟩:=hZ j;obtain⟨q,T,B⟩:=jC B;refine yY m (K.step t) h T (λE M=> ?_) B;obtain rfl:=sj<|F.symm.trans M;exact Qv j<|by decide
end
section
variable{sc:Jk}{a b:E}{es:List E}{u v:Jl}{xs:List Jl}{p q:Pos}
theorem gf{py p:Pos}:Jw (.Call (.Name f py) xs [] p) env=(do callWith p (<-Jw (.Name f py) env) [] (JY p (JE xs env)) (backToKw p (J3 [] env))):=rfl
theorem iy{env:Js}{L:Rho}{σ:PH}{s:Je}{A:Jj}{l:List Js}{X:XPost}{x:String}{v:Jf}{py:Pos}{Q':List PV->PH->Prop}{R:Jf->Je->Prop}
  (h:Evs C G n sc es xs)(I:At C n sc env L A l σ s)
  (d:∀ (R:Jf->Je->Prop) (Er:Jf->Je->Prop),R v s->Jh (Mo C) A (Jw (.Name (Qb x) py) env) R Er s)(kp:Kp C v)(w:wes G (aO C n) es L σ Q' X)
  (k:∀vs W ps σ1,VRs C σ1 W.heap ps vs->Sim C σ1 W.heap->Step none1 σ s.heap σ1 W.heap->Rest s W->ps.length=es.length->Q' ps σ1->Jh (Mo C) A (call v vs) R (XP C none1 σ s X) W):
  Jh (Mo C) A (Jw (.Call (.Name (Qb x) py) xs [] p) env) R (XP C none1 σ s X) s:=by
 rw[gf];refine YD<|d _ _ (eU (first:=[]) kp h.plain ?_);refine YF (jD h I w) (λvs W T=> ?_) λo0 o0 x=>x;obtain⟨ps,σ1,hv,m,t,f,o,w⟩:=T;exact⟨m.base,k vs W ps σ1 hv m t f o w⟩
theorem vO(g:GOK C G mg mb){py:Pos}(D:bN f=Jc)(o:sc.names.lookup (Qb f)=Ja .globalImplicit)(d:bG (Qb f)=Jc)(h:Evs C G n sc es xs):EvOK C G n sc (.call f es) (.Call (.Name (Qb f) py) xs [] p):=λI w=>by
 obtain⟨v,hv,kp⟩:=g.fn f w.1;refine iy h I (λR E X=>im g I.ev I.m (I.sr.glob _ o) d (g.fv f v D hv) X) kp w.2 λJ W t O T B s m F w=> ?_;obtain⟨K,e,o0,w⟩:=w;obtain rfl:=sj<|hv.symm.trans e;exact YF (w _ _ W J (I.ak.step s) B T) (λo0 o0 x=>VP.from s m x) λo0 o0 x=>XP.from s m x
end
theorem GOK.noSys(g:GOK C G mg mb){h:Ji}(m:Sim C σ h):h.objs.size≠JD:=λq=>by
 obtain⟨o,es,s,e,o0⟩:=g.g;have:=QJ<|m.base _ _ e;rw[q] at this;exact absurd this<|by decide
theorem A7(g:GOK C G mg mb){sc:Jk}{b:BI}{py p:Pos}(B:sc.names.lookup (Qb b.nm)=Ja .globalImplicit)(W:bG (Qb b.nm)=Jc)(h:Evs C G n sc es xs):EvOK C G n sc (.bi b es) (.Call (.Name (Qb b.nm) py) xs [] p):=λI w=>
 iy h I (λR o X=>hU g I.ev I.m (I.sr.glob _ B) W b.mem b.boot X) (b.kp C) w.2 λJ D t O T m s f d H=>
  VP.to0 s f (AO (I.ak.calm<|g.calm w.1) I.ak.u100 m T H<|g.noSys m)
theorem t9(h:T∈bty):YX (Qb T)=Ja (.type T)/\T∈bltNames:=by
 simp only[bty,Qt,Kl,or_false] at h
 rcases h with rfl|rfl|rfl|rfl|rfl<;>exact⟨by decide+kernel,by decide⟩
theorem og{L:Type}{l:List L}(h:l.length=1):∃a,l=[a]:=by
 induction l using List.casesOn with
 |nil=>cases h
 |cons a r=>induction r using List.casesOn with
  |nil=>exact⟨a,rfl⟩
  |cons=>cases h
theorem ko:∀ {t:List String} {es:List Jl},kN sc t es=Jc->es.length=t.length
 |[],[]=>λo0=>rfl
 |[],_::_=>λh=>by exact ft h
 |_::_,[]=>λh=>by exact ft h
 |_::_,_::_=>λh=>Ub (· +1)<|ko (and2 h).2
inductive MTy(sc:Jk)(ts:List String)(t:Jl):Prop
 |tup (es:List Jl) (k:Nat) (p:Pos) (e:t= .Tuple es k p) (h:kN sc ts es=Jc) (h2:2<=es.length) (h3:es.length<=100):MTy sc ts t
 |one (d:String) (e:ts=[d]) (h:glb sc d t=Jc):MTy sc ts t
theorem sE{f:String->Bool}(h:oneT f t=Jc):∃d,t=[d]/\f d=Jc:=by
 induction t using List.casesOn with
 |nil=>exact bnx h
 |cons d r=>induction r using List.casesOn with
  |nil=>exact⟨d,rfl,h⟩
  |cons=>exact bnx h
theorem sb(h:mType sc ts t=Jc):MTy sc ts t:=by
 have one:∀t,oneT (λd=>glb sc d t) ts=Jc->MTy sc ts t:=λt h=>by obtain⟨d,e,h⟩:=sE h;exact .one d e h
 induction t using Expr.casesOn with
 |Tuple es k p=>
  obtain⟨h1,h2⟩:=and2 (show(kN sc ts es&&(decide (2<=es.length)&&decide (es.length<=100)))=Jc from h);exact .tup es k p rfl h1 (Y6 (and2 h2).1)<|of_decide_eq_true (and2 h2).2
 |_=>exact one _ h
theorem yn(T:Todo C G n)(g:GOK C G mg mb){sc:Jk}{py p:Pos}(O:sc.names.lookup (Qb "isinstance")=Ja .globalImplicit)(Z:bG (Qb "isinstance")=Jc)(S:kz y=Jc)(J:mType sc m t=Jc)(i:EvOK C G n sc a y):
  EvOK C G n sc (.isi a m) (.Call (.Name (Qb "isinstance") py) [y,t] [] p):=λ{F ρ A l σ s Q X} I w=>by
 have z:stat m=Jc↔(m.length=1/\∀t∈m,t∈bty):=by
  simp only[stat,QW,beq_iff_eq,Qx,List.contains_eq_mem,Ua];rfl
 induction H:stat m with
 |false=>exact ft<|H.symm.trans (show _/\_ from w).1
 |true=>
 obtain⟨w1,w⟩:=w;obtain⟨U,w3⟩:=z.mp H;obtain⟨R,rfl⟩:=og U;have o:R∈bty:=w3 R<|Qk.mpr rfl;have D:glb sc R t=Jc:=by
  cases sb J with
  |tup es k p e h Y J=>
   rw[ko h] at Y;exact absurd Y (show ¬2<=1 by decide)
  |one d e h=>cases e;exact h
 obtain⟨L,rfl,M,h8⟩:=j1 D;obtain⟨N,V⟩:=t9 o;rw[gf];refine YD<|hU g I.ev I.m (I.sr.glob _ O) Z (by decide) (v:= .builtin "isinstance") (by decide+kernel) (eU (first:=[]) ⟨.machine,.inr<|.inl rfl,W.Looks.of_pure rfl⟩ (iS (gI S) rfl) ?_);rw[dc (gI S)];show Jh _ _ (spliced [(Jd,Jw y F),(Jd,Jw (.Name (Qb R) L) F)]) _ _ s;refine Calls.spliced_cons (EOK.then (i I w) λv1 s1 p1 j K B P f w=> ?_);refine Calls.spliced_cons<|hU g (I.ev.step P) B (I.sr.glob _ M) h8 V N (Calls.spliced_nil ⟨B.base,?_⟩);obtain⟨b,e,w⟩:=t2 w;exact VP.to0 P f<|yj o B K e w
theorem nA{nm:Jq}(h:eP x=Jc):attributeBase x nm env (Jw x env)=Jw x env:=by
 induction x using Expr.casesOn with
 |Call f as kw q=>induction as using List.casesOn with
  |nil=>exact bnx h
  |cons a as=>rcases f with⟨⟩<;>rfl
 |_=>rfl
theorem se{xs:List Jl}{p q:Pos}(h2:eP y=Jc)(h5:(p.endLine==q.line)=Jc)(h6:xs.length=1)(ho:EvOK C G n sc o y)(h:Evs C G n sc es xs):EvOK C G n sc (.meth o .append es) (.Call (.Attribute y (Qb "append") p) xs [] q):=λ{F ρ A l σ s Q X} I w=>by
 obtain⟨e,rfl⟩:=og<|h.length.symm.trans h6;obtain⟨z,r,rfl,hz,h3,rfl⟩:=h;have D:JE [z] F=[(Jd,Jw z F)]:=by rw[dc (gI hz)];rfl
 refine wpAny_Call_append (nA h2) ?_ h5 (by rw[D];rfl) ?_
 ·rw[D];rfl
 refine EOK.then (ho I w) λv1 s1 p1 T K L t r1 Z=> ?_;obtain⟨a,l1,rfl,e1,o0⟩:=fY (show onL T (λo0=>True) p1 from Z.1);rw[show v1= .ref a from K];obtain⟨W,N,g1,g2⟩:=L.list e1;refine⟨a,W,rfl,⟨_,N,g1,rfl,rfl,rfl⟩,?_⟩;refine EOK.seq (h3 (I.step t L) Z.2) t r1 λR s2 U O f M V i r2 j=> ?_;obtain⟨P,Y,j,H⟩:=j6 (show onO (λl=>l.length<lim/\Q .none (O.set a<|.list (l++[U]))) (O a) from j);obtain⟨m,k2,g3,d⟩:=M.list Y;have J:m.size=P.length:=d.length;refine VP.to0 V r2<|wpAny_list_append_plain ⟨k2,g3⟩ (λh' g B=> ?_) (by rw[J];exact Qv (Kv j)<|by decide);obtain⟨k3,g⟩:=g;obtain⟨u1,u2⟩:=Sim.upd (S:=none1) (o':= .list (P++[U])) M Y rfl B g ⟨m.push R,k3,rfl,by rw[Array.toList_push];exact d.append ⟨R,[],rfl,f,rfl⟩⟩;exact⟨.none,_,mq,u1,u2,⟨rfl,rfl⟩,H⟩
theorem s8:∀k,m8 C k
 | .val=>tE
 | .range=>pX
 | .zip=>tI
theorem sW{tg:Tg}(h:mTg sc tg t=Jc)(h2:tg.isTup=Jc):pC t:=by
 induction tg with
 |name x=>exact ft h2
 |tup xs=>
  induction t using Expr.casesOn with
  |Tuple es a b=>exact⟨es,a,b,rfl⟩
  |_=>first|exact bnx h|exact onx h|cases h
def ItOK(C:Cx)(G:Gx)(n:Nat)(sc:Jk)(tg:Tg):IK->List E->Jl->Prop
 | .val,es,i=>Evs C G n sc es [i]
 | .range,es,i=>X3 λpy s q=>A4 (i= .Call (.Name (Qb "range") py) s [] q) (sc.names.lookup (Qb "range")=Ja .globalImplicit) (bG (Qb "range")=Jc)<|Evs C G n sc es s
 | .zip,es,i=>X3 λpy s q=>A5 (i= .Call (.Name (Qb "zip") py) s [] q) (sc.names.lookup (Qb "zip")=Ja .globalImplicit) (bG (Qb "zip")=Jc) (Evs C G n sc es s)<|tg.isTup=Jc
theorem ItOK.of(h:mIt sc k tg es i=Jc)(H:∀xs,mEs sc es xs=Jc->Evs C G n sc es xs):ItOK C G n sc tg k es i:=by
 induction k with
 |val=>exact H _ h
 |range=>exact tR (P:=ItOK C G n sc tg .range es) (f:=λs=>mEs sc es s&&decide (s.length=1)) h λpy s q N Y J=>⟨py,s,q,rfl,N,Y,H _ (and2 J).1⟩
 |zip=>exact tR (P:=ItOK C G n sc tg .zip es) (f:=λs=>mEs sc es s&&(decide (s.length=2)&&tg.isTup)) h λpy s q N Y J=>⟨py,s,q,rfl,N,Y,H _ (and2 J).1,(and2 (and2 J).2).2⟩
theorem Evs.one(h:Evs C G n sc es [x]):∃a,A3 (es=[a]) (kz x=Jc) (EvOK C G n sc a x):=by
 rcases es with o0|⟨a,es⟩
 ·cases h
 obtain⟨x,r,e,N,Y,J⟩:=h;cases e
 rcases es with o0|⟨o0,o0⟩
 ·exact⟨a,rfl,N,Y⟩
 ·obtain⟨o0,o0,e,o0⟩:=J;cases e
theorem ItOK.fold(h:ItOK C G n sc tg k es i)(env:Js):∀v,JS i env v=pure v:=by
 induction k with
 |val=>obtain⟨a,rfl,N,o0⟩:=Evs.one h;exact zf N env
 |range=>obtain⟨o0,o0,o0,rfl,o0⟩:=h;intro v;rfl
 |zip=>obtain⟨o0,o0,o0,rfl,o0⟩:=h;intro v;rfl
theorem kF(g:GOK C G mg mb){K:List PV->(PH->Prop)->PH->Prop}
  (hk:G.calm=Jc)(hi:ItOK C G n sc tg k es i)(ht:mTg M tg t=Jc)(I:At C n sc env Y A l σ s)
  (w:wes G (aO C n) es Y σ (λvs σ1=>src k vs σ1 λxs chk=>xs.length<=lim/\whid k σ1 λσ1=>K xs chk σ1) X):
  jl C A env t i σ s K (XP C none1 σ s X):=by
 intro R V;have fin:∀vs O h σ1,(k= .zip->pC t)->VRs C σ1 O.heap h vs->Sim C σ1 O.heap->Step none1 σ s.heap σ1 O.heap->Rest s O->(src k h σ1 λxs chk=>xs.length<=lim/\whid k σ1 λσ1=>K xs chk σ1)->t6 C A k vs R (XP C none1 σ s X) O:=λvs O h σ1 hz hv m P f w=>
  s8 k A t h vs σ1 O K R _ (I.ak.calm<|g.calm hk) hz hv m w λxs chk I fp St L s2 S z m2 o r2 j hl D=>
   V I fp St L s2 xs chk S z m2 (P.trans o) (f.trans r2) (λb H=>⟨P.old m (j b H).1,(j b H).2⟩) hl D
 induction k with
 |val=>
  obtain⟨a,rfl,o0,B⟩:=Evs.one hi;exact EOK.then (B I w) λJ O p1 σ1 Q m P f w=>fin [J] O [p1] σ1 (λq=>by cases q) ⟨J,[],rfl,Q,rfl⟩ m P f w
 |range=>
  obtain⟨py,F,q,rfl,N,d,Z⟩:=hi;exact iy Z I (λR U V=>hU g I.ev I.m (I.sr.glob _ N) d (by decide) (v:= .type "range") (by decide+kernel) V) ⟨.machine,.inr<|.inl rfl,W.Looks.of_pure rfl⟩
   w λvs O h σ1 T m P f hn w=>fin vs O h σ1 (λq=>by cases q) T m P f w
 |zip=>
  obtain⟨py,F,q,rfl,N,d,Z,h8⟩:=hi;exact iy Z I (λR U V=>hU g I.ev I.m (I.sr.glob _ N) d (by decide) (v:= .type "zip") (by decide+kernel) V) ⟨.machine,.inr<|.inl rfl,W.Looks.of_pure rfl⟩
   w λvs O h σ1 T m P f hn w=>fin vs O h σ1 (λo0=>sW ht h8) T m P f w
theorem XP.none{P:Prop}(x:XP C none1 σ1 s (λo0 o0=>False) e s'):P:=by obtain⟨o0,o0,o0,o0,o0,o0,q⟩:=x;exact q.elim
section
variable{sc:Jk}{e c:E}{x y:Jl}{A:Jj}{l:List Js}
theorem qD(h:EvOK C G n sc e x)(i:Js)(K:ScR sc i)(L:Rho)(σ:PH)(s:Je)(Q:Post)(W:EnvR C i L σ s.heap)(m:Sim C σ s.heap)(t:AOK C n A l σ s.heap)(w:we G (aO C n) e L σ Q λo0 o0=>False)(Er:Jf->Je->Prop):Jh (Mo C) A (Jw x i) (VP C none1 σ s Q) Er s:=
 YF (h ⟨K,W,m,t⟩ w) (λo0 o0 x=>x) λo0 o0 x=>XP.none x
theorem tw(i:Js)(V:ScR sc i)(L:Rho)(σ:PH)(s:Je)(K:Bool->PH->Prop)(W:EnvR C i L σ s.heap)(m:Sim C σ s.heap)(h:AOK C n A l σ s.heap)(w:K Jc σ)(Er:Jf->Je->Prop):Jh (Mo C) A (tests [] i) (λo s'=>∃σ',A4 (Sim C σ' s'.heap) (Step none1 σ s.heap σ' s'.heap) (Rest s s') (K o σ')) Er s:=
 wpAny_tests_nil ⟨σ,m,.refl _ _ _,⟨rfl,rfl⟩,w⟩
theorem uZ(h:TsOK C G n sc e x)(i:Js)(W:ScR sc i)(L:Rho)(σ:PH)(s:Je)(K:Bool->PH->Prop)(X:EnvR C i L σ s.heap)(m:Sim C σ s.heap)(t:AOK C n A l σ s.heap)(w:we G (aO C n) e L σ (λv σ'=>c3 (λb=>K b σ') v) λo0 o0=>False)(Er:Jf->Je->Prop):Jh (Mo C) A (tests [x] i) (λo s'=>∃σ',A4 (Sim C σ' s'.heap) (Step none1 σ s.heap σ' s'.heap) (Rest s s') (K o σ')) Er s:=
 wpAny_tests_one (YF (h ⟨W,X,m,t⟩ w) (λb D x=>by obtain⟨T,F,j,H,O⟩:=x;exact⟨T,F,j,H,O⟩) λo0 o0 x=>XP.none x)
theorem wP(g:GOK C G mg mb)(N:ItOK C G n sc tg k es i)(Y:mTg M tg t=Jc)(T:eW sc M=Jc)(B:ownOk tg M=Jc)(O:EvOK C G n M e x):EvOK C G n sc (.comp e tg k es) (.ListComp x [⟨t,i,[],0⟩] M p):=λ{F L A l W s Q X} I w=>
 oZ (tst:=λo0 W K=>K Jc W) (el:=λh W K=>we G (aO C n) e h W K λo0 o0=>False) I.ev I.ak I.sr T B Y (N.fold F) (kF g w.1 N Y I w.2) tw (qD O)
theorem rQ(g:GOK C G mg mb)(N:ItOK C G n sc tg k es i)(Y:mTg M tg t=Jc)(o:eW sc M=Jc)(B:ownOk tg M=Jc)(O:EvOK C G n M e x)(Z:TsOK C G n M c y):EvOK C G n sc (.compIf e tg k es c) (.ListComp x [⟨t,i,[y],0⟩] M p):=λ{F L A l W s Q X} I w=>
 oZ (tst:=λh W K=>we G (aO C n) c h W (λv T=>c3 (λb=>K b T) v) λo0 o0=>False) (el:=λh W K=>we G (aO C n) e h W K λo0 o0=>False) I.ev I.ak I.sr o B Y (N.fold F) (kF g w.1 N Y I w.2) (uZ Z) (qD O)
end
theorem uw(g:GOK C G mg mb):EvOK C G n sc .dict0 (.Dict [] [] p):=λ{F L A l t s Q X} I w=>by
 show Jh _ _ (Jw (.Dict [] [] p) F) _ _ s;rw[arm_eval_Dict];refine YD<|YI ?_;show Jh _ _ newDict _ _ s;exact JB<|VP.alloc (o:= .dict [] []) I.m rfl ⟨rfl,rfl⟩ rfl ⟨#[],0,[],⟨rfl,rfl,rfl⟩,rfl,rfl,rfl,.nil,λy h=>(bQ h),rfl⟩ w.2 (g.noSys I.m)
theorem nQ(h:kz y=Jc):JE [y,.List [] r] env=[(Jd,Jw y env),(Jd,Jw (.List [] r) env)]:=by
 rw[dc (gI h)];rfl
section
variable{sc:Jk}{a k:E}{y kx:Jl}{p q r:Pos}
theorem uJ{m:String}{id:String}{env:Js}{L:Rho}{σ:PH}{s:Je}{A:Jj}{l:List Js}{X:XPost}{P:PV->PH->PV->PH->Prop}{R:Jf->Je->Prop}(slot:Slot "dict" (Qb m) id)(z:typeOf (.builtin id)=pure (.type "method_descriptor"))
  (kp:Kp C (.builtin id))(Q:eP y=Jc)(E:(p.endLine==q.line)=Jc)(hz:kz kx=Jc)(I:At C n sc env L A l σ s)(Z:EvOK C G n sc a y)(j:EvOK C G n sc k kx)
  (w:we G (aO C n) a L σ (λM σ1=>onD σ1 (λo0 o0=>True) M/\we G (aO C n) k L σ1 (λd O=>P M σ1 d O) X) X)
  (fin:∀r σ1 d O H J,P (.ref r) σ1 d O->VR C O J.heap d H->Sim C O J.heap->Step none1 σ s.heap O J.heap->Rest s J->
   Jh (Mo C) A (call (.builtin id) [.ref r,H,.ref J.heap.objs.size]) R (XP C none1 σ s X) {J with heap:=J.heap.push (lstO #[] 0)}):Jh (Mo C) A (Jw (.Call (.Attribute y (Qb m) p) [kx,.List [] r] [] q) env) R (XP C none1 σ s X) s:=by
 refine wpAny_Call_method_late (nA Q) (by rw[nQ hz];rfl) E rfl ?_;refine EOK.then (Z I w) λS g p1 σ1 K B t Y f=> ?_;obtain⟨b,ks,ll,rfl,e,o0⟩:=ip f.1;rw[show S= .ref b from K];obtain⟨xs,D⟩:=B.dict e;refine⟨"dict",id,F.plainAttrs_dict,slot,z,D.of.typeIs,PyProof.Rows.dictOfH_noDict D.of,?_⟩;refine eU (first:=[.ref b]) kp (iS (gI hz) rfl) ?_;rw[nQ hz];show Jh _ _ (spliced [(Jd,Jw kx env),(Jd,Jw (.List [] r) env)]) _ _ g;refine Calls.spliced_cons (EOK.seq (j (I.step t B) f.2) t Y λH J U O h T V i W N=> ?_);refine Calls.spliced_cons<|wpAny_List_spliced (Calls.spliced_nil ⟨QV _,Calls.spliced_nil ⟨λb o q=>Qw _<|T.base b o q,?_⟩⟩);exact fin b σ1 U O H J N h T V W
theorem yB(L:eP y=Jc)(E:(p.endLine==q.line)=Jc)(hz:kz kx=Jc)(Z:EvOK C G n sc a y)(j:EvOK C G n sc k kx):EvOK C G n sc (.get a k) (.Call (.Attribute y (Qb "get") p) [kx,.List [] r] [] q):=λ{z ρ A l σ s Q X} I w=>by
 refine uJ (m:="get") (P:=λf T d O=>onD O (λi l=>oK (λk=>wget (klook i l k) O Q)<|keyOf d) f) F.slot_dict_get F.type_dict_get ⟨.machine,.inr<|.inl rfl,W.Looks.of_pure rfl⟩ L E hz I Z j w ?_;intro r T d O V R w hv Y t M;obtain⟨b,i,U,g,e,N⟩:=ip w;cases g;obtain⟨K,H,B⟩:=i4 N;have J:=Y.push<|lstO #[] 0;obtain⟨xs,D⟩:=J.dict e;obtain⟨S,rfl,h⟩:=kS H<|hv.step (Step.push none1 O R.heap<|lstO #[] 0);refine call_meetsIn F.slot_dict_get D.of.typeIs F.entry_dict_get (F.args_dict_get_3 _ _ _) (meetsH_dict_get_default (tk C.prog C.w) r S D.sys _) ⟨iH I.ak.u100,K,xs,h.is,D.of,?_⟩
 rcases D.look (k:=K) with⟨z1,z2⟩|⟨p,y,z1,z2,z3⟩
 ·rw[z2];rw[z1] at B;exact VP.from t M<|VP.alloc (o:= .list []) Y rfl ⟨rfl,rfl⟩ rfl ⟨#[],0,rfl,rfl⟩ B
 ·rw[z2];rw[z1] at B;exact⟨p,O,z3,J,t.trans<|.push _ _ _ _,M.trans ⟨rfl,rfl⟩,B⟩
theorem AS(h:eP y=Jc)(h4:(p.endLine==q.line)=Jc)(hz:kz kx=Jc)(ha:EvOK C G n sc a y)(hk:EvOK C G n sc k kx):EvOK C G n sc (.sd a k) (.Call (.Attribute y (Qb "setdefault") p) [kx,.List [] r] [] q):=λ{am ρ A l σ s Q X} I w=>by
 refine uJ (m:="setdefault") (P:=λva M vk O=>wsd va O Q vk) F.slot_dict_setdefault F.type_dict_setdefault ⟨.machine,.inr (.inl rfl),W.Looks.of_pure rfl⟩ h h4 hz I ha hk w ?_;intro r M vk O v2 J w hv m2 V r2;obtain⟨K,T,e,af,w2⟩:=kB (show onDO (λK l=>l.length<lim/\oK (λk=>match klook K l k with
  |some v=>Q v O
  |none=>∀b,O b=Jb->Q (.ref b) ((O.set b (.list [])).set r (.dict (K++[k]) (l++[.ref b])))) (keyOf vk)) (O r) from w)
 obtain⟨t,ae,d⟩:=i4 w2;have m3:=m2.push<|lstO #[] 0;have ab:=hv.step<|Step.push none1 O J.heap (lstO #[] 0);obtain⟨xs,D⟩:=m3.dict e;obtain⟨kb,rfl,f⟩:=kS ae ab;have Y:xs.length<=JL:=by
  have N:=D.v.length;rw[Qd] at N;rw[N,JW];exact Qv (Kv af)<|by decide
 refine jV (iH I.ak.u100) f.is D.sys D.of (λy B=> ?_) (λB h' hd hs=> ?_) Y
 ·rcases D.look (k:=t) with⟨o0,z⟩|⟨p,y',U,E,z4⟩
  ·exact sn<|B.symm.trans z
  ·obtain rfl:=sj<|B.symm.trans E;rw[U] at d;exact⟨p,O,z4,m3,V.trans<|.push _ _ _ _,r2.trans ⟨rfl,rfl⟩,d⟩
 ·have U:klook K T t=Jb:=by
   rcases D.look (k:=t) with⟨z,o0⟩|⟨p,y',o0,E,o0⟩
   ·exact z
   ·exact ns<|B.symm.trans E
  rw[U] at d;have hL:O J.heap.objs.size=Jb:=m2.fresh<|QA _;have ah:r≠J.heap.objs.size:=λq=>by rw[q,hL] at e;exact ns e
  obtain⟨p4,ak,a1,m4,aa,r4,⟨b4,a5,a6⟩⟩:=VP.alloc (S:=none1) (Q:=λv ai=>∃b,v= .ref b/\ai=O.set b (.list [])) (s:=J) (s':={J with heap:=J.heap.push (lstO #[] 0)}) (o:= .list []) m2 rfl ⟨rfl,rfl⟩ rfl ⟨#[],0,rfl,rfl⟩ λb hb=>⟨b,rfl,rfl⟩
  ·subst a5 a6;cases (show Value.ref J.heap.objs.size= .ref b4 from a1);have e4:(O.set J.heap.objs.size<|.list []) r=Ja (.dict K T):=by rw[PH.set_ne _ _ ah];exact e
   obtain⟨L,H⟩:=m4.dict e4;have ad:L=xs:=by
    obtain⟨o1,ao,aj,g1,o0,d1,x1,o0⟩:=D.of;obtain⟨o2,an,al,g2,o0,d2,x2,o0⟩:=H.of;obtain rfl:=sj<|g1.symm.trans g2;rw[d1] at d2;cases d2;rw[x1] at x2;have ac:=H.ks.trans D.ks.symm;refine WF λi=> ?_;have N:(L.map (·.1))[i]? =(xs.map (·.1))[i]? :=by rw[ac]
    have h:(xs.map<|entryOfKey (tk C.prog C.w))[i]? =(L.map<|entryOfKey (tk C.prog C.w))[i]? :=by rw[x2]
    rw[Qu,Qu] at N h
    induction c1:L[i]? with
    |none=>rw[c1] at h;induction Z:xs[i]? with
     |none=>rfl
     |some y=>rw[Z] at h;exact sn h
    |some z=>induction Z:xs[i]? with
     |none=>rw[c1,Z] at N;exact sn N
     |some y=>
      rw[c1,Z] at N h;obtain⟨U,B,E⟩:=z;obtain⟨y1,y2,y3⟩:=y;have N:U=y1:=Option.some.inj N;have h:=Option.some.inj h;simp only[JN,DictEntry.mk.injEq,Value.ref.injEq] at h;rw[N,h.2.1,h.2.2]
   subst ad;have R:KeyAt C (O.set J.heap.objs.size<|.list []) (J.heap.push<|lstO #[] 0) t kb:=by
    obtain⟨n',vs,mm,g,i⟩:=f;refine⟨?_,vs,mm,g,i⟩;rw[PH.set_ne]
    ·exact n'
    ·intro q;rw[q,QN _ rfl] at g;exact absurd (Ub (Wn Obj.cls) g)<|by simp
   obtain⟨u1,u2⟩:=H.set (p:= .ref J.heap.objs.size) (v:= .ref J.heap.objs.size) m4 e4 R rfl (by rw[storedH_new B];exact hd) hs;have ek:kset K T t (.ref J.heap.objs.size)= .dict (K++[t]) (T++[.ref J.heap.objs.size]):=by
    unfold kset;have:kidx K t=Jb:=by
     induction q:kidx K t with
     |none=>rfl
     |some j=>
      have:=H.some_ (k:=t);rw[q,B] at this;exact tf this
    rw[this]
   rw[ek] at u1 u2;exact⟨.ref J.heap.objs.size,_,rfl,u1,(V.trans aa).trans u2,(r2.trans r4).trans ⟨rfl,rfl⟩,d _ hL⟩
end
theorem VRs.bs:∀ {l:List PV} {bs:List Bool} {vs:List Jf},em l=Ja bs->VRs C σ h l vs->vs=bs.map .bool
 |[],bs,vs=>λe r=>by rw[show vs=[] from r,<-sj e];rfl
 |p::l,bs,vs=>λe r=>by
  obtain⟨v,vs,rfl,f,M⟩:=r
  induction p using PV.casesOn with
  |bool b=>
   obtain⟨s,T,rfl⟩:=Qs.mp (show(em l).map (b:: ·)=Ja bs from e);rw[show v= .bool b from f,VRs.bs T M];rfl
  |_=>exact ns e
def Both(C:Cx)(G:Gx)(n:Nat)(sc:Jk)(e:E)(x:Jl):Prop:=EvOK C G n sc e x/\TsOK C G n sc e x
theorem pl{x:Jl}(h:EvOK C G n sc e x)(hx:∀env,Y3 x env (Jw x env)=(do let v<-Jw x env;standAt x.pos;holding [v] (Ju v))):Both C G n sc e x:=⟨h,w7 hx h⟩
def WB(C:Cx)(G:Gx)(n:Nat)(e:E):Prop:=∀ (sc:Jk) (x:Jl),mE sc e x=Jc->Both C G n sc e x
def WBs(C:Cx)(G:Gx)(n:Nat)(es:List E):Prop:=∀ (sc:Jk) (xs:List Jl),mEs sc es xs=Jc->Evs C G n sc es xs
mutual
theorem bP(T:Todo C G n)(g:GOK C G mg mb):∀e:E,WB C G n e
 | .none=>λo0 o0 h=>ij h λo0 o0=>pl xA λo0=>rfl
 | .bool _=>λo0 o0 h=>ij h λo0 o0=>pl vF λo0=>rfl
 | .int _=>λo0 o0 h=>ij h λo0 o0=>pl yF λo0=>rfl
 | .str _=>λo0 o0 h=>ij h λo0 o0=>pl z0 λo0=>rfl
 | .loc _=>λo0 o0 h=>iU h λo0 h1 h2=>pl (yh h1 h2) λo0=>rfl
 | .glob _=>λo0 o0 h=>iU h λo0 h1 h2=>pl (wz g h1 h2) λo0=>rfl
 | .bin _ a b=>λo0 o0 h=>AT h λo0 o0 o0 o0 h1 h2 h3=>pl (ze h1 (bP T g a _ _ h2).1 (bP T g b _ _ h3).1) λo0=>rfl
 | .not_ a=>λo0 o0 h=>BO h λo0 o0 h=>⟨yX (bP T g a _ _ h).1,xt (bP T g a _ _ h).2⟩
 | .and_ a b=>λo0 o0 h=>uH h (λo0 o0 o0 h1 h2=>zp (bP T g a _ _ h1) (bP T g b _ _ h2)) λo0 o0 o0 o0 o0 h1 h2=>v6 (bP T g a _ _ h1)<|bP T g b _ _ h2
 | .or_ a b=>λo0 o0 h=>uH h (λo0 o0 o0 h1 h2=>AK (bP T g a _ _ h1) (bP T g b _ _ h2)) λo0 o0 o0 o0 o0 h1 h2=>yx (bP T g a _ _ h1)<|bP T g b _ _ h2
 | .isNone a=>λo0 o0 h=>AL h λl c p h1 h2=>ij (P:=λc=>Both C G n _ _ (.Compare l [_] [c] p)) h2 λo0 o0=>⟨r6 (bP T g a _ _ h1).1,pD (bP T g a _ _ h1).1⟩
 | .notNone a=>λo0 o0 h=>AL h λl c p h1 h2=>ij (P:=λc=>Both C G n _ _ (.Compare l [_] [c] p)) h2 λo0 o0=>⟨qf (bP T g a _ _ h1).1,nP (bP T g a _ _ h1).1⟩
 | .cmp _ a b=>λo0 o0 h=>Bj h λo0 o0 o0 o0 h1 h2 h3 h4=>zj h1 h4 (bP T g a _ _ h2).1 (bP T g b _ _ h3).1
 | .cmp2 a _ b _ c=>λo0 o0 h=>yN h λo0 o0 o0 o0 o0 o0 h1 h2 h3 h4 h5 h6=>⟨wl h1 h2 h6 (bP T g a _ _ h3).1 (bP T g b _ _ h4).1 (bP T g c _ _ h5).1,uz h1 h2 h6 (bP T g a _ _ h3).1 (bP T g b _ _ h4).1 (bP T g c _ _ h5).1⟩
 | .tup es=>λo0 o0 h=>BD h λo0 o0 o0 h1 h2=>pl (yA (dD T g es _ _ h1) h2) λo0=>rfl
 | .list es=>λo0 o0 h=>ui h λo0 o0 h1 h2=>pl (wt (dD T g es _ _ h1) h2) λo0=>rfl
 | .sub a b=>λo0 o0 h=>xV h λo0 o0 o0 h1 h2=>pl (Aa (bP T g a _ _ h1).1 (bP T g b _ _ h2).1) λo0=>rfl
 | .comp elt _ _ it=>λo0 o0 h=>up h λo0 o0 o0 o0 o0 h1 h2 h3 h4 h5=>pl (wP g (.of h1 (dD T g it _)) h2 h4 h5 (bP T g elt _ _ h3).1) λo0=>rfl
 | .compIf elt _ _ it c=>λo0 o0 h=>pd h λo0 o0 o0 o0 o0 o0 h1 h2 h3 h6 h4 h5=>pl (rQ g (.of h1 (dD T g it _)) h2 h4 h5 (bP T g elt _ _ h3).1 (bP T g c _ _ h6).2) λo0=>rfl
 | .call f args=>λsc o0 h=>uh (f:=λx=>glb sc f x&&bN f) h λy as p h1 h2=>by
  obtain⟨py,rfl,h3,h4⟩:=j1 (and2 h1).1;exact pl (vO g (and2 h1).2 h3 h4 (dD T g args _ _ (and2 h2).1)) λo0=>rfl
 | .bi _ args=>λo0 o0 h=>tR h λo0 o0 o0 h1 h2 h3=>pl (A7 g h1 h2 (dD T g args _ _ (and2 h3).1)) λo0=>rfl
 | .isi a ts=>λsc o0 h=>tR h λpy as p h1 h2 h3=>sP (Q:=λas=>Both C G n sc (.isi a ts) (.Call (.Name (Qb "isinstance") py) as [] p)) h3 λo0 o0 h3 h4=>pl (yn T g h1 h2 (and2 h3).1 h4 (bP T g a _ _ (and2 h3).2).1) λo0=>rfl
 | .meth o .append args=>λo0 o0 h=>vW h λo0 o0 o0 o0 h1 h2 h3 h4=>pl (se h2 h3 (Y6 (and2 h4).2) (bP T g o _ _ h1).1 (dD T g args _ _ (and2 h4).1)) λo0=>rfl
 | .dict0=>λo0 o0 h=>wk h λo0=>pl (uw g) λo0=>rfl
 | .get a k=>λo0 o0 h=>vW h λy o0 p q h1 h2 h3 h4=>sP (Q:=λas=>Both C G n _ _ (.Call (.Attribute y _ p) as [] q)) h4 λkx o0 h4 h5=>x6 (P:=λz=>Both C G n _ _ (.Call (.Attribute y _ p) [kx,z] [] q)) h5 λo0=>pl (yB h2 h3 (and2 h4).1 (bP T g a _ _ h1).1 (bP T g k _ _ (and2 h4).2).1) λo0=>rfl
 | .sd a k=>λo0 o0 h=>vW h λy o0 p q h1 h2 h3 h4=>sP (Q:=λas=>Both C G n _ _ (.Call (.Attribute y _ p) as [] q)) h4 λkx o0 h4 h5=>x6 (P:=λz=>Both C G n _ _ (.Call (.Attribute y _ p) [kx,z] [] q)) h5 λo0=>pl (AS h2 h3 (and2 h4).1 (bP T g a _ _ h1).1 (bP T g k _ _ (and2 h4).2).1) λo0=>rfl
 | .attr _ _=>λo0 o0 h=>wA h λo0 p h1 o0 o0=>iU (P:=λy=>Both C G n _ _ (.Attribute y _ p)) h1 λo0 h1 h2=>pl (T.attr h1 h2) λo0=>rfl
 | .mcall _ _ o args=>λo0 o0 h=>vW h λo0 o0 o0 o0 h1 h2 h3 h4=>pl (T.mcall (bP T g o _ _ h1).1 h2 h3 (dD T g args _ _ (and2 h4).1) (Y6 (and3 (and2 h4).2).1) (nt (and3 (and2 h4).2).2.1) (Y9 (and3 (and2 h4).2).2.2)) λo0=>rfl
theorem dD(T:Todo C G n)(g:GOK C G mg mb):∀es:List E,WBs C G n es
 |[]=>λo0 xs h=>by
  rcases xs with o0|⟨o0,o0⟩
  ·rfl
  ·exact ft h
 |a::r=>λo0 xs h=>by
  rcases xs with o0|⟨x,xs⟩
  ·exact ft h
  ·have h:=and2 h;exact⟨x,xs,rfl,(and2 h.1).1,(bP T g a _ _ (and2 h.1).2).1,dD T g r _ _ h.2⟩
end
end
noncomputable def ownE(env:Js):Jg->Prop:=λb=>b=env.locals\/∃x,env.cells.lookup x=Ja b
def FR(C:Cx)(σ:PH)(h:Ji):Fl->Flow->Prop
 | .next,f=>f= .next
 | .ret p,f=>∃v,f= .ret v/\VR C σ h p v
inductive SP(C:Cx)(n:Nat)(A:Jj)(l:List Js)(env:Js)(σ:PH)(s:Je)(Q:SPost)(f:Flow)(s':Je):Prop
 |mk (fl:Fl) (ρ':Rho) (σ':PH) (a:FR C σ' s'.heap fl f) (b:EnvR C env ρ' σ' s'.heap) (c:Sim C σ' s'.heap) (d:Step (ownE env) σ s.heap σ' s'.heap) (e:Rest s s') (k:AOK C n A l σ' s'.heap) (q:Q fl ρ' σ'):SP C n A l env σ s Q f s'
inductive SX(C:Cx)(n:Nat)(A:Jj)(l:List Js)(env:Js)(σ:PH)(s:Je)(X:gb)(e:Jf)(s':Je):Prop
 |mk (x:PX) (ρ':Rho) (σ':PH) (a:Fly C env.frame x e σ' s.heap s'.heap) (b:EnvR C env ρ' σ' s'.heap) (c:Sim C σ' s'.heap) (d:Step (ownE env) σ s.heap σ' s'.heap) (r:Rest s s') (k:AOK C n A l σ' s'.heap) (q:X x ρ' σ'):SX C n A l env σ s X e s'
def TopF(env:Js)(l:List Js):Prop:=∃K,l=env::K/\env.frame=Ja env.locals
structure AtS(C:Cx)(n:Nat)(sc:Jk)(env:Js)(ρ:Rho)(A:Jj)(l:List Js)(σ:PH)(s:Je):Prop extends At C n sc env ρ A l σ s where
 tf:TopF env l
def StK(C:Cx)(G:Gx)(n:Nat)(sc:Jk)(st:S)(x:Jo):Prop:=∀ {env:Js} {L:Rho} {A:Jj} {l:List Js} {σ:PH} {s:Je} {Q:SPost} {X:gb},
 AtS C n sc env L A l σ s->ws G (aO C n) (aO C.un n) st L σ Q X->Jh (Mo C) A (exec x env) (SP C n A l env σ s Q) (SX C n A l env σ s X) s
def StsK(C:Cx)(G:Gx)(n:Nat)(sc:Jk)(t:List S)(xs:List Jo):Prop:=∀ {env:Js} {L:Rho} {A:Jj} {l:List Js} {σ:PH} {s:Je} {Q:SPost} {X:gb},
 AtS C n sc env L A l σ s->wss G (aO C n) (aO C.un n) t L σ Q X->Jh (Mo C) A (execs xs env) (SP C n A l env σ s Q) (SX C n A l env σ s X) s
structure Todo2(C:Cx)(G:Gx)(n:Nat):Prop where
 while_:∀ {sc t b u y p},TsOK C G n sc t u->StsK C G n sc b y->StK C G n sc (.while_ t b) (.While u y [] p)
 raise:C.ok->C.calm->∀ {sc c args py as p q},sc.names.lookup (Qb c)=Ja .globalImplicit->bG (Qb c)=Jc->as.length<=20->Evs C G n sc args as->StK C G n sc (.raise c args) (.Raise (Ja<|.Call (.Name (Qb c) py) as [] p) Jb q)
 try1:C.ok->C.calm->∀ {sc b c h y t hb hr p q},glb sc c t=Jc->StsK C G n sc b y->StsK C.un G.un n sc h (hb::hr)->StK C G n sc (.try1 b c h) (.Try y [.ExceptHandler (Ja t) Jb (hb::hr) p] [] [] q)
section
variable{C:Cx}{G:Gx}{mg mb:Jq->Option Jf}{n:Nat}{A:Jj}{env:Js}{l:List Js}{σ:PH}{s:Je}
theorem Step.own{h S:Ji}(st:Step none1 σ h σ' S):Step (ownE env) σ h σ' S:=st.mono λo0 o0 f=>f.elim
theorem XP.stmt(W:EnvR C env L σ s.heap)(k:AOK C n A l σ s.heap)(x:XP C none1 σ s (λx σ1=>X x L σ1) e s'):SX C n A l env σ s X e s':=
 by obtain⟨x,T,a,b,c,d,q⟩:=x;exact⟨x,L,T,a.weak,W.step c,b,c.own,d,k.step c,q⟩
theorem SX.none{P:Prop}(x:SX C n A l env σ1 W (λo0 o0 o0=>False) e s'):P:=by obtain⟨o0,o0,o0,o0,o0,o0,o0,o0,o0,q⟩:=x;exact q.elim
theorem SP.from{W:Je}(st:Step (ownE env) σ s.heap σ1 W.heap)(r:Rest s W)(x:SP C n A l env σ1 W Q f s'):SP C n A l env σ s Q f s':=
 by obtain⟨fl,L,X,a,b,c,d,e,q,w⟩:=x;exact⟨fl,L,X,a,b,c,st.trans d,r.trans e,q,w⟩
theorem SX.from{W:Je}(st:Step (ownE env) σ s.heap σ1 W.heap)(r:Rest s W)(x:SX C n A l env σ1 W X f s'):SX C n A l env σ s X f s':=
 by obtain⟨fl,L,T,a,b,c,d,e,q,w⟩:=x;exact⟨fl,L,T,a.from st,b,c,st.trans d,r.trans e,q,w⟩
theorem jn(h:slot env xs c):ownE env c:=by
 obtain⟨x,o0,q|q⟩:=h
 ·exact .inl q.2
 ·exact .inr ⟨_,q.2⟩
theorem mi{h:Ji}(W:EnvR C env L σ h)(q:ownE env c):∃o,h.get? c=Ja o/\¬isSeq o:=by
 rcases q with rfl|⟨x,q⟩
 ·obtain⟨o0,⟨o,U,H,e,d,o0⟩,o0⟩:=W.ns;exact⟨o,e,d6 d⟩
 ·obtain⟨o0,v,o,e,d⟩:=W.newC x c q;exact⟨o,e,fS d⟩
theorem Asg.step{S:Rho}(a:Asg C env (slot env xs) σ h W)(P:EnvR C env S B h₀)(st:Step (ownE env) B h₀ σ h):Step (ownE env) B h₀ σ W:=
 st.mvS a.mv λc f=> .inr ⟨jn f,λo e=>by obtain⟨i,g,q⟩:=mi P<|jn f;obtain rfl:=sj<|e.symm.trans g;exact q,by obtain⟨o,e,_⟩:=(a.has c f).2;exact⟨o,e⟩⟩
theorem AOK.asg{F:Jg->Prop}{h S:Ji}(k:AOK C n A l σ h)(a:Asg C env F σ h S):AOK C n A l σ S:=⟨k.depth,k.units,k.stack,a.frs l k.frs,k.calm⟩
theorem pw{tg:Tg}(r:ScR sc env)(h:mTg sc tg t=Jc):∀x∈tg.names,env.kindOf (Qb x)=Ja .local\/env.kindOf (Qb x)=Ja .cell:=
 λx hx=>(qj h x hx).imp (r.loc _) (r.cell _)
theorem nH{tg:Tg}{W:Je}{Er:Jf->Je->Prop}(U:tg.isT=Jc->A.handled=Jb)(k:ScR sc env)(h:mTg sc tg t=Jc)(X:EnvR C env L σ s.heap)(q:AOK C n A l σ s.heap)
  (st:Step none1 σ s.heap σ1 W.heap)(r:Rest s W)(m:Sim C σ1 W.heap)(hv:VR C σ1 W.heap p v)(b:bindT tg p L=Ja ρ')(w:Q .next ρ' σ1):
  Jh (Mo C) A (assign t env v) (λo0 J=>SP C n A l env σ s Q .next J) Er W:=
 il U h (X.step st) m (pw k h) hv b λJ a x M=>⟨.next,ρ',σ1,rfl,x,a.sim,a.step X st.own,r.trans M,(q.step st).asg a,w⟩
theorem pB{py:Pos}(h:kz x=Jc):JT x (Ja (.Name y py)) ln env=pure Jd\/(JT x (Ja (.Name y py)) ln env=pure Jc/\xk x=11):=by
 induction x using Expr.casesOn with
 |ListComp a b c d=>
  have:∃bb,JT (.ListComp a b c d) (Ja<|.Name y py) ln env=pure bb:=⟨_,rfl⟩
  obtain⟨bb,hb⟩:=this
  induction bb with
  |true=>exact .inr ⟨hb,rfl⟩
  |false=>exact .inl hb
 |SetComp=>exact ft h
 |DictComp=>exact ft h
 |_=>exact .inl rfl
theorem ia(h:kz x=Jc)(ht:(xk t==1)=Jd):JT x (Ja t) ln env=pure Jd:=by
 induction x using Expr.casesOn with
 |ListComp a b c d=>rcases t with⟨⟩<;>first|rfl|exact tf ht
 |SetComp=>exact ft h
 |DictComp=>exact ft h
 |_=>rfl
theorem p0(h:xk x=12):JT x Jb ln env=pure Jd:=by
 obtain⟨f,a,k,p,rfl⟩:=h▸xinv x;rfl
section
variable{sc:Jk}{e:E}{v:Jl}{p:Pos}
theorem vI(hx:xk v=12)(c:EvOK C G n sc e v):StK C G n sc (.expr e) (.Expr v p):=λ{env L A l σ s Q X} I w=>by
 refine wpAny_Expr_any (YF (c I.toAt w) (λv W hv=> ?_) λo0 o0 x=>XP.stmt I.ev I.ak x) ?_<|p0 hx
 ·obtain⟨p,m,N,Y,h,O,B⟩:=hv;exact⟨.next,L,m,rfl,I.ev.step h,Y,h.own,O,I.ak.step h,B⟩
 ·simp[interactive,I.ev.fn]
theorem zb(c:EvOK C G n sc e v):StK C G n sc (.ret e) (.Return (Ja v) p):=λ{env L A l σ s Q X} I w=>by
 refine wpAny_Return_some (YF (c I.toAt w) (λv W hv=> ?_) λo0 o0 x=>XP.stmt I.ev I.ak x);obtain⟨p,m,N,Y,h,O,B⟩:=hv;exact⟨.ret p,L,m,⟨v,rfl,N⟩,I.ev.step h,Y,h.own,O,I.ak.step h,B⟩
theorem AtS.step{W:Je}(I:AtS C n sc env L A l σ s)(st:Step none1 σ s.heap σ1 W.heap)(m:Sim C σ1 W.heap):AtS C n sc env L A l σ1 W:=⟨I.toAt.step st m,I.tf⟩
theorem StsK.after{W:Je}(h:StsK C G n sc t xs)(I:AtS C n sc env j A l σ1 W)(w:wss G (aO C n) (aO C.un n) t j σ1 Q X)(st:Step (ownE env) σ s.heap σ1 W.heap)(r:Rest s W):
  Jh (Mo C) A (execs xs env) (SP C n A l env σ s Q) (SX C n A l env σ s X) W:=YF (h I w) (λo0 o0 x=>SP.from st r x) λo0 o0 x=>SX.from st r x
theorem AG(W:TsOK C G n sc e v)(R:StsK C G n sc b y)(d:StsK C G n sc o z):StK C G n sc (.if_ e b o) (.If v y z p):=λ{env L A l σ s Q X} I w=>by
 refine wpAny_If (YF (W (K:=λT m=>if T then wss G (aO C n) (aO C.un n) b L m Q X else wss G (aO C n) (aO C.un n) o L m Q X) I.toAt w) (λT O h=> ?_) λo0 o0 x=>XP.stmt I.ev I.ak x);obtain⟨m,c,t,r,w⟩:=h
 induction T with
 |true=>exact R.after (I.step t c) w t.own r
 |false=>exact d.after (I.step t c) w t.own r
theorem wY:StsK C G n sc [] []:=λI w=>JM ⟨.next,_,_,rfl,I.ev,I.m,.refl _ _ _,⟨rfl,rfl⟩,I.ak,w⟩
theorem uk(H:StK C G n sc a x)(z:StsK C G n sc r xs):StsK C G n sc (a::r) (x::xs):=λ{env L A l σ s Q X} I w=>by
 refine J5 (YF (H I w) (λf O W=> ?_) λo0 o0 x=>x);obtain⟨fl,j,T,h,m,c,t,B,k,w⟩:=W
 induction fl with
 |next=>
  cases (show f= .next from h);exact z.after ⟨⟨I.sr,m,c,k⟩,I.tf⟩ w t B
 |ret p=>
  obtain⟨v,rfl,hv⟩:=h;exact⟨.ret p,j,T,⟨v,rfl,hv⟩,m,c,t,B,k,w⟩
end
end
section
end
section
variable{C:Cx}{σ:PH}{h:Ji}
mutual
theorem iN:∀ (p:PV) (v:Jf),VR C.un σ h p v=VR C σ h p v
 | .none=>λv=>rfl
 | .bool _=>λv=>rfl
 | .int _=>λv=>rfl
 | .str _=>λv=>rfl
 | .ref _=>λv=>rfl
 | .scr l=>λv=>rfl
 | .tup l=>λv=>propext ⟨λz=>by obtain⟨a,n,vs,T,e2,e,u⟩:=z;exact⟨a,n,vs,T,e2,e,(ie l _).mp u⟩,λz=>by obtain⟨a,n,vs,T,e2,e,u⟩:=z;exact⟨a,n,vs,T,e2,e,(ie l _).mpr u⟩⟩
theorem ie:∀ (l:List PV) (vs:List Jf),VRs C.un σ h l vs=VRs C σ h l vs
 |[]=>λvs=>rfl
 |p::ps=>λvs=>propext ⟨λz=>by obtain⟨v,r,T,e2,e⟩:=z;exact⟨v,r,T,(iN p _).mp e2,(ie ps _).mp e⟩,λz=>by obtain⟨v,r,T,e2,e⟩:=z;exact⟨v,r,T,(iN p _).mpr e2,(ie ps _).mpr e⟩⟩
end
theorem xP(p:PO)(o:Jp):OR C.un σ h p o=OR C σ h p o:=by
 induction p with
 |dict L l=>exact propext ⟨λM=>by obtain⟨U,s,P,x,d,e,k,nd,E,v⟩:=M;exact⟨U,s,P,x,d,e,k,nd,λy W=>by obtain⟨a,b,c,d,e⟩:=E y W;exact⟨a,b,c,d,e⟩,(ie _ _).mp v⟩,
   λM=>by obtain⟨U,s,P,x,d,e,k,nd,E,v⟩:=M;exact⟨U,s,P,x,d,e,k,nd,λy W=>by obtain⟨a,b,c,d,e⟩:=E y W;exact⟨a,b,c,d,e⟩,(ie _ _).mpr v⟩⟩
 |fd c V=>exact propext ⟨λM=>by obtain⟨U,s,e,k,v,z⟩:=M;exact⟨U,s,e,k,λi f p N Y=>(v i f p N Y).imp λo0 q=>⟨q.1,(iN _ _).mp q.2⟩,z⟩,λM=>by obtain⟨U,s,e,k,v,z⟩:=M;exact⟨U,s,e,k,λi f p N Y=>(v i f p N Y).imp λo0 q=>⟨q.1,(iN _ _).mpr q.2⟩,z⟩⟩
 |list l=>exact propext ⟨λM=>by obtain⟨w,n,e,r⟩:=M;exact⟨w,n,e,(ie _ _).mp r⟩,λM=>by obtain⟨w,n,e,r⟩:=M;exact⟨w,n,e,(ie _ _).mpr r⟩⟩
 |_=>rfl
end
section
variable{C:Cx}{G:Gx}{mg mb:Jq->Option Jf}{σ:PH}{h:Ji}{env:Js}{ρ:Rho}{n:Nat}{A:Jj}{l:List Js}
theorem Sim.un(m:Sim C σ h):Sim C.un σ h:=⟨m.base,m.new,λa o e=>by simpa only[xP] using m.objs a o e,m.rich⟩
theorem Sim.re(m:Sim C.un σ h):Sim C σ h:=⟨m.base,m.new,λa o e=>by simpa only[xP] using m.objs a o e,m.rich⟩
theorem EnvR.un(x:EnvR C env ρ σ h):EnvR C.un env ρ σ h:=⟨x.fn,x.glob,x.blt,by simpa only[iN] using x.ns,by simpa only[iN] using x.cell,x.newL,x.baseL,x.baseC,x.newC,x.apart,x.hasC⟩
theorem EnvR.re(x:EnvR C.un env ρ σ h):EnvR C env ρ σ h:=⟨x.fn,x.glob,x.blt,by simpa only[iN] using x.ns,by simpa only[iN] using x.cell,x.newL,x.baseL,x.baseC,x.newC,x.apart,x.hasC⟩
theorem AOK.un(x:AOK C n A l σ h):AOK C.un n (A.mark e) l σ h:=⟨x.depth,x.units,x.stack,x.frs,(λh=>h.elim)⟩
theorem AOK.re{S:Ji}(x:AOK C.un n (A.mark e) l σ' S)(y:AOK C n A l σ h):AOK C n A l σ' S:=⟨x.depth,x.units,x.stack,x.frs,y.calm⟩
theorem GOK.un(g:GOK C G mg mb):GOK C.un G.un mg mb:=⟨g.g,g.b,g.nolimit,g.blt,λx p e=>by simpa only[iN] using g.glob x p e,g.full,(λh=>by exact ft h),g.fv,g.fn⟩
end
section
variable{C:Cx}{G:Gx}{mg mb:Jq->Option Jf}{n:Nat}
theorem n9{s:Je}{T:Rho}
  {tst:Rho->PH->(Bool->PH->Prop)->Prop}{el:Rho->PH->Post->Prop}
  (Y:EnvR C env T σ s.heap)(H:AOK C n A l σ s.heap)(z:ScR sc env)(R:eW sc scope=Jc)(ow:ownOk tg scope=Jc)(ht:mTg scope tg t=Jc)(hx:mTg sc (.name x) (.Name (Qb x) m)=Jc)
  (hs:∀x,JS iter env x=pure x)
  (w:jl C A env t iter σ s (λxs chk σ1=>f5 chk tg T tst el xs [] σ1 λu r=>wnew (.list u) r λv σ3=>Q .next (T.put x v) σ3) (SX C n A l env σ s X))
  (P:∀i,ScR scope i->∀ρ' σ' s' I,EnvR C i ρ' σ' s'.heap->Sim C σ' s'.heap->AOK C n A l σ' s'.heap->tst ρ' σ' I->∀E,Jh (Mo C) A (tests K i) (λR W=>∃j,A4 (Sim C j W.heap) (Step none1 σ' s'.heap j W.heap) (Rest s' W)<|I R j) E s')
  (O:∀i,ScR scope i->∀ρ' σ' s' Q,EnvR C i ρ' σ' s'.heap->Sim C σ' s'.heap->AOK C n A l σ' s'.heap->el ρ' σ' Q->∀E,Jh (Mo C) A (Jw g i) (VP C none1 σ' s' Q) E s'):
  Jh (Mo C) A (comprehension (.ListComp g [⟨t,iter,K,0⟩] scope pos) scope env J (newList []) Jd (Jw iter env)<|Ja (assign (.Name (Qb x) m) env)) (λo0 s'=>SP C n A l env σ s Q .next s') (SX C n A l env σ s X) s:=by
 refine ql (Q:=λv σ3=>Q .next (T.put x v) σ3) Y H z R ow ht hs w P O λD σ3 s3 L m3 a r3 N F h3 ⟨M,hn⟩ hq=> ?_;show Jh _ A (assign (.Name (Qb x) m) env<|.ref D) _ _ _;refine il (tg:= .name x) (ρ':=T.put x<|.ref D) (λq=>ft q) hx (Y.step a) m3 (pw z hx) (p:= .ref D) rfl rfl λS b k r4=> ?_;have h:¬ownE env L:=λq=>by obtain⟨o,e,o0⟩:=mi Y q;exact ns<|N.symm.trans e
 have V:S.heap.Ns L M:=Ns.like hn λo e=>⟨o,b.mv L o (λf=>h<|jn f) e,.refl o⟩
 refine⟨M,V,λd B=> ?_⟩;have mv:Mv (· =L) S.heap d:=λc o f e=>B.extBut c o f e;obtain⟨o,es,ep,ho,hd,o0⟩:=V;have Z:Fok C σ3 S.heap (· =L):=λc f=>by
  have f:c=L:=f;subst f;exact⟨h3,.inl ⟨F,iG ho<|d6 hd⟩⟩
 refine⟨.next,T.put x (.ref D),σ3,rfl,k.mv mv Z (λq=>h (.inl (q:env.locals=L).symm)) (λy c hc q=>h (.inr ⟨y,(q:c=L)▸hc⟩)),b.sim.mv mv Z (λc f q=>by have f:c=L:=f;subst f;exact ns (F.symm.trans q)),
  (b.step Y a.own).mv mv (λc f=>by have f:c=L:=f;subst f;exact N),r3.trans r4,((H.step a).asg b).mv mv (λen he Lf U q=> ?_),hq⟩
 obtain⟨o0,L',o',o0,o0,e1,o0,o0,e4,o0⟩:=H.frs en he;obtain rfl:=sj<|U.symm.trans e1;have q:Lf=L:=q;subst q;exact ns<|N.symm.trans e4
theorem jM(g:GOK C G mg mb){K:List PV->(PH->Prop)->PH->Prop}
  (q:G.calm=Jc)(hi:ItOK C G n sc tg k es i)(W:mTg c tg t=Jc)(I:At C n sc env L A l σ s)
  (w:wes G (aO C n) es L σ (λvs σ1=>src k vs σ1 λxs chk=>xs.length<=lim/\whid k σ1 λσ1=>K xs chk σ1) λx σ1=>X x L σ1):jl C A env t i σ s K (SX C n A l env σ s X):=λR h=>
 YF (kF g q hi W I w R h) (λo0 o0 x=>YF x (λo0 o0 y=>y) λo0 o0 y=>XP.stmt I.ev I.ak y) λo0 o0 y=>XP.stmt I.ev I.ak y
theorem kg{pos:Pos}{Q:Flow->Je->Prop}{Er:Jf->Je->Prop}(E:JT v (Ja t) pos.line env=pure Jd)(w:swappedStores [t] v env=pure Jb)
  (W:kz t=Jc)(h:Jh (Mo C) A (Jw v env) (λx m=>Jh (Mo C) A (assign t env x) (λo0=>Q .next) Er m) Er s):Jh (Mo C) A (exec (.Assign [t] v pos) env) Q Er s:=by
 refine wpAny_Assign_stores (YF h (λx m V=> ?_) λo0 o0 x=>x) E w;have:(JO [t] env).map (·.2)=[assign t env]:=by rcases t with⟨⟩<;>first|rfl|exact ft W
 rw[this];exact V
theorem oH(h:xk v≠7):swappedStores [.Tuple es k p] v env=pure Jb:=by
 induction v using Expr.casesOn with
 |Tuple a b c=>exact absurd rfl h
 |_=>rfl
section
variable{sc:Jk}{e:E}{v:Jl}{pos:Pos}
theorem z9(g:GOK C G mg mb)(hx:mTg sc (.tup xs) (.Tuple es a b)=Jc)(hz:kz v=Jc)(o:xk v≠7)(O:EvOK C G n sc e v):StK C G n sc (.assign (.tup xs) e) (.Assign [.Tuple es a b] v pos):=λ{F L A l E s Q X} I w=>by
 refine kg (ia hz rfl) (oH o) rfl (YF (O I.toAt w.2) (λW q hv=> ?_) λo0 o0 x=>XP.stmt I.ev I.ak x);obtain⟨p,T,h,m,t,r,f⟩:=hv;obtain⟨z,R,f⟩:=qc f;exact nH (λo0=>I.ak.calm<|g.calm w.1) I.sr hx I.ev I.ak t r m h R f
theorem on{R:Je->Prop}{Q:Flow->Je->Prop}{Er:Jf->Je->Prop}(hQ:∀s',R s'->Q .next s')
  (hs:JT (.ListComp elt [⟨t,iter,ifs,0⟩] scope p) (Ja<|.Name y pz) pos.line env=pure Jc)
  (h:Jh (Mo C) A (comprehension (.ListComp elt [⟨t,iter,ifs,0⟩] scope p) scope env (firstIterPos [⟨t,iter,ifs,0⟩] p) (newList []) Jd (Jw iter env)<|Ja (assign (.Name y pz) env)) (λo0 s'=>R s') Er s):
  Jh (Mo C) A (exec (.Assign [.Name y pz] (.ListComp elt [⟨t,iter,ifs,0⟩] scope p) pos) env) Q Er s:=by
 rw[exec_Assign_Name_used _ _ _ _ hs];refine YD<|YI (YD ?_);show Jh _ A (do let _<-comprehension (.ListComp elt [⟨t,iter,ifs,0⟩] scope p) scope env _ (newList []) Jd (Jw iter env) (Ja<|assign (.Name y pz) env)) _ _ s;exact YD<|YF h (λo0 s' hq=>YE<|YE (hQ s' hq)) λo0 o0 e=>e
theorem E.comp_of{P:E->Prop}{e:E}(h:e.isC=Jc)(k:∀l tg k i,P (.comp l tg k i))(A:∀l tg k i c,P (.compIf l tg k i c)):P e:=by
 induction e using E.casesOn with
 |comp l tg j i=>exact k l tg j i
 |compIf l tg j i c=>exact A l tg j i c
 |_=>exact ft h
theorem xC(T:Todo C G n)(g:GOK C G mg mb)(hx:mTg sc (.name y) (.Name (Qb y) pz)=Jc)(hz:kz v=Jc)(hc:xk v=11->e.isC=Jc)(hm:mE sc e v=Jc):StK C G n sc (.assign (.name y) e) (.Assign [.Name (Qb y) pz] v pos):=λ{env ρ A l σ s Q X} I w=>by
 rcases pB (env:=env) (y:=Qb y) (py:=pz) (ln:=pos.line) hz with hs|⟨hs,hl⟩
 ·refine kg hs rfl rfl (YF ((bP T g e sc v hm).1 I.toAt w) (λv1 s1 hv=> ?_) λo0 o0 x=>XP.stmt I.ev I.ak x);obtain⟨p1,σ1,hv1,m1,st1,r1,w1⟩:=hv;exact nH (tg:= .name y) (λq=>ft q) I.sr hx I.ev I.ak st1 r1 m1 hv1 rfl w1
 ·revert hm w
  refine E.comp_of (P:=λe=>mE sc e v=Jc->ws G (aO C n) (aO C.un n) (.assign (.name y) e) ρ σ Q X->Jh (Mo C) A (exec (.Assign [.Name (Qb y) pz] v pos) env) (SP C n A l env σ s Q) (SX C n A l env σ s X) s) (hc hl) (λelt tg k it hm w=> ?_) λelt tg k it c hm w=> ?_
  ·refine up (P:=λv=>JT v (Ja<|.Name (Qb y) pz) pos.line env=pure Jc->Jh (Mo C) A (exec (.Assign [.Name (Qb y) pz] v pos) env) (SP C n A l env σ s Q) (SX C n A l env σ s X) s) hm (λe t i sc' p h1 h2 h3 h4 h5 hs=>on (λo0 q=>q) hs ?_) hs;have h1:=ItOK.of h1<|dD T g it sc;exact n9 (tst:=λo0 σ K=>K Jc σ) (el:=λρ' σ K=>we G (aO C n) elt ρ' σ K λo0 o0=>False) I.ev I.ak I.sr h4 h5 h2 hx (h1.fold env) (jM g w.1 h1 h2 I.toAt w.2) tw<|qD (bP T g elt _ _ h3).1
  ·refine pd (P:=λv=>JT v (Ja<|.Name (Qb y) pz) pos.line env=pure Jc->Jh (Mo C) A (exec (.Assign [.Name (Qb y) pz] v pos) env) (SP C n A l env σ s Q) (SX C n A l env σ s X) s) hm (λe t i z sc' p h1 h2 h3 h6 h4 h5 hs=>on (λo0 q=>q) hs ?_) hs;have h1:=ItOK.of h1<|dD T g it sc;exact n9 (tst:=λρ' σ K=>we G (aO C n) c ρ' σ (λv σ'=>c3 (λb=>K b σ') v) λo0 o0=>False) (el:=λρ' σ K=>we G (aO C n) elt ρ' σ K λo0 o0=>False) I.ev I.ak I.sr h4 h5 h2 hx (h1.fold env) (jM g w.1 h1 h2 I.toAt w.2) (uZ (bP T g c _ _ h6).2)<|qD (bP T g elt _ _ h3).1
theorem yZ(hz:kz v=Jc)(ho:EvOK C G n sc o u)(hi:EvOK C G n sc i y)(he:EvOK C G n sc e v):StK C G n sc (.setIdx o i e) (.Assign [.Subscript u y p] v pos):=λ{ac L A l σ s Q X} I w=>by
 refine wpAny_Assign_Subscript (YF (he I.toAt w) (λJ s1 hv=> ?_) λo0 o0 x=>XP.stmt I.ev I.ak x)<|ia hz rfl;obtain⟨r,aa,O,m1,P,r1,w1⟩:=hv;refine YF (EOK.seq (ho (I.toAt.step P m1) w1) P r1 λv2 s2 p2 ab M m2 W m r2 w2=> ?_) (λo0 o0 x=>x) λo0 o0 x=>XP.stmt I.ev I.ak x;refine YF (EOK.seq (hi (I.toAt.step W m2) w2) W r2 λv3 g p3 V d Y q Z r3 B=> ?_) (λo0 o0 x=>x) λo0 o0 x=>XP.stmt I.ev I.ak x
 induction p2 using PV.casesOn with
 |ref a=>
  rw[show v2= .ref a from M];have h:=(O.step m).step Z
  rcases (show onDO (λks l=>l.length<lim/\oK (λk=>Q .next L<|V.set a (kset ks l k r)) (keyOf p3)) (V a)\/_ from B) with B|B
  ·obtain⟨ks,R,T,N,B⟩:=kB B;obtain⟨kk,H,U⟩:=i4 B;obtain⟨xs,D⟩:=Y.dict T;obtain⟨kb,rfl,f⟩:=kS H d;have K:xs.length<=JL:=by
    have h1:=D.v.length;rw[Qd] at h1;rw[h1,JW];exact Qv (Kv N)<|by decide
   refine wpAny_setItem_heap (hsz:=K) (iH I.ak.u100) f.is D.of λh' hd hs=> ?_;obtain⟨u1,F⟩:=D.set (p:=r) (v:=J) Y T f h hd hs;have t:=q.trans F;exact⟨.next,L,_,rfl,I.ev.step t,u1,t.own,r3.trans ⟨rfl,rfl⟩,I.ak.step t,U⟩
  obtain⟨R,T,B⟩:=j6 (show onO (λl=>onInt (λk=>oNat (λj=>l.length<=lim/\Q .next L (V.set a<|.list (l.set j r)))<|place l.length k) p3) (V a) from B);obtain⟨k,rfl,B⟩:=d9 B;obtain⟨j,hj,B,U⟩:=hZ B;obtain⟨tk,rfl⟩:=d;obtain⟨vs,k',g1,g2⟩:=Y.list T;have hn:vs.size=R.length:=g2.length;refine lv g1 (by rw[hn];exact Qv B<|by decide) (by rw[hn];exact hj) ?_;have z:KP a g.heap (g.heap.update a (Obj.mapSeq (·.setIfInBounds j J))):=KP.update ..;have b:∃c,(g.heap.update a (Obj.mapSeq (·.setIfInBounds j J))).get? a=Ja (lstO (vs.setIfInBounds j J) c):=by
   refine⟨?_,?_⟩
   rotate_left
   ·rw[Kg _ g1 rfl];simp only[Obj.mapSeq,lstO];rfl
  obtain⟨c,b⟩:=b;obtain⟨u1,F⟩:=Sim.upd (S:=none1) (o':= .list (R.set j r)) Y T rfl z b ⟨_,c,rfl,by rw[Array.toList_setIfInBounds];exact g2.set j h⟩;have t:=q.trans F;exact⟨.next,L,_,rfl,I.ev.step t,u1,t.own,r3.trans ⟨rfl,rfl⟩,I.ak.step t,U⟩
 |_=>exact B.elim
structure ForAt(C:Cx)(St:Nat->PH->Ji->Prop)(env:Js)(n:Nat)(A:Jj)(l:List Js)(go:List PV->Rho->PH->Prop)(xs:List PV)(σ:PH)(s:Je)(i:Nat)(ρ':Rho)(σ':PH)(s':Je):Prop where
 le:i<=xs.length
 st:St i σ' s'.heap
 m:Sim C σ' s'.heap
 ev:EnvR C env ρ' σ' s'.heap
 step:Step (ownE env) σ s.heap σ' s'.heap
 rest:Rest s s'
 ak:AOK C n A l σ' s'.heap
 go:go (xs.drop i) ρ' σ'
theorem Ai(g:GOK C G mg mb)(h1:mTg sc tg t=Jc)(h2:ItOK C G n sc tg k es i)(hb:StsK C G n sc b y):StK C G n sc (.for_ tg k es b) (.For t i y [] pos):=λ{F ρ A l σ s Q X} I w=>by
 refine wpAny_For ?_<|h2.fold F;refine jM (t:=t) g w.1 h2 h1 I.toAt w.2 _ λII fp St aj s1 H ap r O m1 P r1 j au h=> ?_;have M:∀b∈fp,¬ownE F b:=λb hb q=>by obtain⟨o,e,o0⟩:=mi I.ev q;exact ns<|((j b hb).1).symm.trans e
 have ah:∀d∈l,∀L,d.frame=Ja L->L∉fp:=λd U L W q=>by
  obtain⟨o0,L',o',o0,o0,e1,o0,o0,e4,o0⟩:=I.ak.frs d U;obtain rfl:=sj<|W.symm.trans e1;exact ns<|((j L q).1).symm.trans e4
 refine codeAny_forLoop_any (λkk s'=>X3 λi z T=>kk=H.length-i+1/\ForAt C St F n A l (forGo ap tg (λρ σ K=>wss G (aO C n) (aO C.un n) b ρ σ K λo0 o0 o0=>False) Q) H σ s i z T s') ?_ _
  ⟨0,ρ,aj,rfl,⟨QV _,O,m1,I.ev.step P,P.own,r1,I.ak.step P,h⟩⟩
 clear O m1 h;intro kk s' hI;obtain⟨i,z,T,rfl,J⟩:=hI;have O:=J.st;have m':=J.m;have u:=J.ev;have R:=J.step;have r':=J.rest;have D:=J.ak;have h:=J.go;have hi:=J.le;clear J;have fo:=r.fok O;by_cases N:i<H.length
 ·have hx:H[i]? =Ja H[i]:=Qg N;rw[List.drop_eq_getElem_cons N] at h;obtain⟨af,h⟩:=h;obtain⟨av,ao,h⟩:=qc h;refine r.item hx m' af O λv s1 Y=> ?_;refine Y _ _ λs2 hv m2 m ae r2=> ?_
  ·have an:=u.mv m fo (λq=>M _ q<|.inl rfl) λy c Z q=>M _ q<|.inr ⟨y,Z⟩;have al:=R.mv m (λc Z=>(j c Z).1);have as:=D.mv m (λd U L W q=>ah d U L W q);refine il (λo0=>r.hdn) h1 an m2 (pw I.sr h1) hv ao λs3 a3 ak r3=> ?_;have aa:=a3.step I.ev al;have ar:=as.asg a3;have B:=r.mv ae a3.mv a3.fok λb hb q=>M b hb<|jn q;refine YF (hb ⟨⟨I.sr,ak,a3.sim,ar⟩,I.tf⟩ h) (λf s4 h4=> ?_) λo0 o0 x=>SX.none x;obtain⟨fl,ab,a,f4,ai,m4,V,r4,ad,h⟩:=h4;have ac:=r.step B V M
   induction fl with
   |next=>
    simp only[FR] at f4;subst f4;exact⟨H.length-(i+1)+1,uu N,i+1,ab,a,rfl,⟨N,ac,m4,ai,aa.trans V,((r'.trans r2).trans r3).trans r4,ad,h⟩⟩
   |ret p=>
    obtain⟨v4,rfl,aq⟩:=f4;exact⟨.ret p,ab,a,⟨v4,rfl,aq⟩,ai,m4,aa.trans V,((r'.trans r2).trans r3).trans r4,ad,h⟩
 ·have am:i=H.length:=Nat.le_antisymm hi<|Kc.mp N;subst am;rw[List.drop_length] at h;refine r.done m' h.1 O λs2 m2 m r2=> ?_;refine JM ?_;exact⟨.next,z,T,rfl,u.mv m fo (λq=>M _ q<|.inl rfl)<|λy c Z q=>M _ q<|.inr ⟨y,Z⟩,m2,R.mv m<|λc Z=>(j c Z).1,r'.trans r2,D.mv m<|λd U L W q=>ah d U L W q,h.2⟩
end
end
section
variable{mg mb:Jq->Option Jf}{n:Nat}
def WS(n:Nat)(mg mb:Jq->Option Jf)(st:S):Prop:=∀ (C:Cx) (G:Gx),Todo C G n->Todo2 C G n->Todo C.un G.un n->Todo2 C.un G.un n->GOK C G mg mb->∀ (sc:Jk) (x:Jo),mS sc st x=Jc->StK C G n sc st x
def WSs(n:Nat)(mg mb:Jq->Option Jf)(s:List S):Prop:=∀ (C:Cx) (G:Gx),Todo C G n->Todo2 C G n->Todo C.un G.un n->Todo2 C.un G.un n->GOK C G mg mb->∀ (sc:Jk) (x:List Jo),mSs sc s x=Jc->StsK C G n sc s x
theorem lor(h:(!a||b)=Jc)(T:a=Jc):b=Jc:=by rw[T] at h;exact h
theorem bne7(h:(!(xk x==k))=Jc):xk x≠k:=λq=>by rw[q,beq_self_eq_true] at h;exact ft h
mutual
theorem BA:∀st:S,WS n mg mb st
 | .assign (.name y) e=>λC G T Q X u g sc o0 h=>Ah (P:=StK C G n sc (.assign (.name y) e)) h λo0 o0 o0 N Y=>xC T g N (and2 (and2 Y).1).1 (λq=>lor (and2 (and2 Y).1).2 (beq_iff_eq.mpr q)) (and2 Y).2
 | .assign (.tup xs) e=>λC G T Q X u g sc o0 h=>Bb (P:=StK C G n sc (.assign (.tup xs) e)) h λo0 o0 o0 o0 o0 N Y=>z9 g N (and2 (and2 Y).1).1 (bne7 (and2 (and2 Y).1).2) (bP T g e _ _ (and2 Y).2).1
 | .setIdx o i e=>λC G T Q X u g sc o0 h=>nY (P:=StK C G n sc (.setIdx o i e)) h λt v p N Y=>xV (P:=λt=>StK C G n sc (.setIdx o i e) (.Assign [t] v p)) N λo0 o0 o0 J O=>yZ (and2 Y).1 (bP T g o _ _ J).1 (bP T g i _ _ O).1 (bP T g e _ _ (and2 Y).2).1
 | .expr e=>λC G T Q X u g sc o0 h=>Aw (P:=StK C G n sc (.expr e)) h λo0 o0 h=>vI (Y9 (and2 h).1) (bP T g e _ _ (and2 h).2).1
 | .ret e=>λC G T Q X u g sc o0 h=>Ba (P:=StK C G n sc (.ret e)) h λo0 o0 h=>zb (bP T g e _ _ h).1
 | .if_ t b o=>λC G T Q X u g sc o0 h=>BJ (P:=StK C G n sc (.if_ t b o)) h λo0 o0 o0 o0 N Y J=>AG (bP T g t _ _ N).2 (hP b C G T Q X u g _ _ Y) (hP o C G T Q X u g _ _ J)
 | .for_ tg k V b=>λC G T Q X u g sc o0 h=>AB (P:=StK C G n sc (.for_ tg k V b)) h λo0 o0 o0 o0 N Y J=>Ai g N (.of Y<|dD T g V _)<|hP b C G T Q X u g _ _ J
 | .while_ t b=>λC G T Q X u g sc o0 h=>xj (P:=StK C G n sc (.while_ t b)) h λo0 o0 o0 N Y=>Q.while_ (bP T g t _ _ N).2 (hP b C G T Q X u g _ _ Y)
 | .raise c args=>λC G T Q X u g sc o0 h=>w0 (P:=StK C G n sc (.raise c args)) h λv q h=>tR (P:=λv=>StK C G n sc (.raise c args) (.Raise (Ja v) Jb q)) h λo0 o0 o0 N Y J=>λI w=>Q.raise (g.full w.1.1) (g.calm w.1.2.1) N Y (Y6 (and2 J).2) (dD T g args _ _ (and2 J).1) I w
 | .try1 b c h=>λC G T Q X u g sc o0 m=>yL (P:=StK C G n sc (.try1 b c h)) m λo0 o0 o0 o0 o0 o0 N Y O=>λI w=>Q.try1 (g.full w.1.1) (g.calm w.1.2.1) Y (hP b C G T Q X u g _ _ N) (hP h _ _ X u X u g.un _ _ O) I w
theorem hP:∀s:List S,WSs n mg mb s
 |[]=>λC G T Q X u g o0 xs h=>by
  rcases xs with o0|⟨o0,o0⟩
  ·exact wY
  ·exact ft h
 |a::r=>λC G T Q X u g o0 xs h=>by
  rcases xs with o0|⟨x,xs⟩
  ·exact ft h
  ·exact uk (BA a C G T Q X u g _ _ (and2 h).1)<|hP r C G T Q X u g _ _ (and2 h).2
end
end
section
variable{M:Model}{A:Jj}{E:Jf->Je->Prop}{s:Je}
noncomputable def frsOf(l:List Js):List Jg:=l.filterMap (·.frame)
structure Noted(l:List Js)(e:Jg)(oe:Jp)(vs:Array Jf)(fo:Option Jg)(F:Jg->Prop)(h h':Ji):Prop where
 same:∀b o,¬F b->b∉frsOf l->h.get? b=Ja o->h'.get? b=Ja o
 slots:∀b o,¬F b->h.get? b=Ja o->∃sl,h'.get? b=Ja {o with slots:=sl}
 exc:∃T oT ts o' vs',(h.get? T=Jb\/(F T/\vs[1]? =Ja (.ref T)))/\T≠e/\h'.get? e=Ja o'/\o'.cls=oe.cls/\o'.dict=oe.dict/\o'.data= .fields vs'/\vs'[1]? =Ja (.ref T)/\vs'[2]? =vs[2]? /\
  h'.get? T=Ja oT/\oT.data= .fields ts/\ts[3]? =Ja (fo.elim Value.none λf=>Jx f)
 alive:∀b,F b->(∃o,h.get? b=Ja o)->∃o,h'.get? b=Ja o
theorem rV{o:Jp}(f:Array Jf->Array Jf):(o.mapFields f).dict=o.dict:=by
 obtain⟨c,d,t,l⟩:=o;rcases t with⟨⟩<;>rfl
theorem lZ{o W:Jp}{vs t:Array Jf}{fo:Option Jg}{Q:Unit->Je->Prop}(O:s.heap.get? e=Ja o)(v:o.data= .fields vs)(N:vs[1]? =Ja (.ref T))(Y:s.heap.get? T=Ja W)(d:W.data= .fields t)(J:3<t.size)
  (h:Q () {s with heap:=s.heap.update T (Obj.mapFields (·.setIfInBounds 3 (fo.elim Value.none λf=>Jx f)))}):Jh M A (JU (.ref e) fo) Q E s:=by
 unfold JU;refine YD<|YG O v N ?_;rw[Y8 (show(Value.ref T !=Value.none)=Jc from by simp)];exact JG Y d J h
theorem oh{env:Js}{oe:Jp}{vs:Array Jf}{Q:Unit->Je->Prop}
  (hfr:A.frames=Ja (env::outer))(hl:s.heap.FunFrames base (env::outer))(hf:env.frame=Ja L)(he:s.heap.get? e=Ja oe)(hd:oe.data= .fields vs)(hsz:1<vs.size)
  (hK:∀s' o' vs' T,s'.heap.get? e=Ja o'->o'.data= .fields vs'->vs'[1]? =Ja (.ref T)->Jh M A (JU (.ref e) fo) Q E s'->Jh M A K Q E s')
  (h:∀h',Noted (env::outer) e oe vs fo (· =e) s.heap h'->Q () {s with heap:=h'}):
  Jh M A (do let a<-frameOf env;let pl<-entryPlaceOf L hadNext;let b<-EntryCells.newEntry head a .none (Jx L) .none pl;setField (.ref e) 1 b) (λo0 s'=>Jh M A K Q E s') E s:=by
 have hene:e∉frsOf (env::outer):=λhm=>by
  obtain⟨o0,o,ho,hnf⟩:=hl.mem hm;rw[he] at ho;injection ho with ho;subst ho;exact hnf vs hd
 refine YD (wpAny_frameOf_fun hfr hl hf λh1 hs1=> ?_);refine YD (wpAny_entryPlaceOf λpl hpl=> ?_);unfold EntryCells.newEntry newFields;refine YD<|wpAny_newObj_type ?_ (hpl.sizeOk5 _ _ _ _ _);generalize hob:({cls:= .type "traceback",dict:=Jb,data:= .fields ([head,.ref L,.none,Jx L,.none]++(if pl.isEmpty then List.replicate 6 Value.none else pl)).toArray}:Jp)=ob;have hod:ob.data= .fields ([head,.ref L,.none,Jx L,.none]++(if pl.isEmpty then List.replicate 6 Value.none else pl)).toArray:=by rw[<-hob]
 have hfb:ob.isFreed=Jd:=by rw[<-hob];rfl
 have he1:h1.get? e=Ja oe:=(hs1.2.1 e hene).trans he;have he2:=Qw (h:=h1) ob he1;refine JG he2 hd hsz ?_;have hTe:h1.objs.size≠e:=KQ<|QJ he1;have hd3:=Obj.data_mapFields hd (·.setIfInBounds 1 (Value.ref h1.objs.size));have he3:=Kg (Obj.mapFields (·.setIfInBounds 1 (Value.ref h1.objs.size))) he2<|Obj.isFreed_of_fields hd3;have hT3:=(KC (h1.push ob) (Obj.mapFields (·.setIfInBounds 1 (Value.ref h1.objs.size)))<|Ne.symm hTe).trans (QN h1 hfb);have h3s:3<(([head,.ref L,.none,Jx L,.none]++(if pl.isEmpty then List.replicate 6 Value.none else pl)).toArray:Array Jf).size:=by
  simp only[List.size_toArray,QG,KW,WA];exact zll (by decide)<|QO _ _
 have hv1:(vs.setIfInBounds 1<|Value.ref h1.objs.size)[1]? =Ja (.ref h1.objs.size):=by rw[Wd hsz]
 refine hK _ _ _ _ he3 hd3 hv1<|lZ he3 hd3 hv1 hT3 hod h3s (h _ ?_);have hdT:=Obj.data_mapFields hod (·.setIfInBounds 3 (fo.elim Value.none λf=>Jx f));have keep:∀b o,b≠e->h1.get? b=Ja o->
   (((h1.push ob).update e (Obj.mapFields (·.setIfInBounds 1 (Value.ref h1.objs.size)))).update h1.objs.size
    (Obj.mapFields (·.setIfInBounds 3 (fo.elim Value.none λf=>Jx f)))).get? b=Ja o:=λb o hbe hb=>by
  have hbT:h1.objs.size≠b:=KQ<|QJ hb;rw[KC _ _ hbT,KC _ _ (Ne.symm hbe)];exact Qw _ hb
 have hee:(((h1.push ob).update e (Obj.mapFields (·.setIfInBounds 1 (Value.ref h1.objs.size)))).update h1.objs.size
    (Obj.mapFields (·.setIfInBounds 3 (fo.elim Value.none λf=>Jx f)))).get? e=Ja (oe.mapFields (·.setIfInBounds 1 (.ref h1.objs.size))):=by
  rw[KC _ _ hTe];exact he3
 refine⟨λb o hb hm e1=>keep b o hb ((hs1.2.1 b hm).trans e1),λb o hb e1=> ?_,⟨h1.objs.size,_,_,_,_,.inl ?_,hTe,hee,Obj.cls_mapFields _ _,rV _,hd3,hv1,?_,Kg _ hT3 (Obj.isFreed_of_fields hdT),hdT,?_⟩,λb hb o0=>by
  have hb:b=e:=hb;subst hb;exact⟨_,hee⟩⟩
 ·obtain⟨sl,q⟩:=hs1.2.2 b o e1;exact⟨sl,keep b _ hb q⟩
 ·induction q:s.heap.get? h1.objs.size with
  |none=>rfl
  |some o=>obtain⟨sl,w⟩:=hs1.2.2 _ o q;exact absurd (QJ w)<|KH _
 ·rw[Array.getElem?_setIfInBounds_ne (by decide)]
 ·show(Array.setIfInBounds _ 3<|fo.elim Value.none λf=>Jx f)[3]? =Ja _;rw[Wd h3s]
theorem wL{env:Js}{oe:Jp}{Q:Unit->Je->Prop}
  (hfr:A.frames=Ja (env::outer))(hl:s.heap.FunFrames base (env::outer))(hf:env.frame=Ja L)(he:s.heap.get? e=Ja oe)(hd:oe.data= .fields vs)
  (hK:∀s' o' vs' T,s'.heap.get? e=Ja o'->o'.data= .fields vs'->vs'[1]? =Ja (.ref T)->Jh M A (JU (.ref e) fo) Q E s'->Jh M A K Q E s')
  (hv:vs[1]? =Ja .none\/∃T oT ts,vs[1]? =Ja (.ref T)/\T≠e/\s.heap.get? T=Ja oT/\oT.data= .fields ts/\(ts[3]? =Ja .none\/ts[3]? =Ja (Jx L)))
  (h:∀h',Noted (env::outer) e oe vs fo (λb=>b=e\/vs[1]? =Ja (.ref b)) s.heap h'->Q () {s with heap:=h'}):
  Jh M A (noteFrame (.ref e) env) (λo0 s'=>Jh M A K Q E s') E s:=by
 unfold noteFrame;simp only[hf]
 rcases hv with h1|⟨T,oT,ts,h1,hTe,hT,hdT,h3|h3⟩
 ·refine YD<|YG he hd h1 ?_;rw[Y7 (by decide)];refine oh hfr hl hf he hd (KB.mp h1).1 hK λh' N=>h h' ⟨λb o hb=>N.same b o λq=>hb<|.inl q,λb o hb=>N.slots b o λq=>hb<|.inl q,?_,λb hb=> ?_⟩
  ·obtain⟨T',oT',ts',o',vs',q1,q2⟩:=N.exc;exact⟨T',oT',ts',o',vs',q1.imp id λz=>⟨.inl z.1,z.2⟩,q2⟩
  ·rcases hb with hb|hb
   ·exact N.alive b hb
   ·rw[h1] at hb;cases hb
 ·refine YD<|YG he hd h1 ?_;rw[Y8 (show(Value.ref T !=Value.none)=Jc from by simp)];refine YD<|YG hT hdT h3 ?_;rw[Y7 (show ¬ ((Value.none==Jx L)=Jc) from by simp[Jx])];refine YD<|wpAny_setField hT hdT (KB.mp h3).1 ?_;have other:∀b,b≠T->(s.heap.update T (Obj.mapFields (·.setIfInBounds 3 Value.none))).get? b=s.heap.get? b:=λb hb=>KC _ _<|Ne.symm hb;have noRecord:∀b o,s.heap.get? b=Ja o->(∀vs,o.data≠ .fields vs)->b≠T:=λb o hb hnf q=>by
   rw[q,hT] at hb;injection hb with hb;subst hb;exact hnf ts hdT
  refine oh hfr (hl.of_keeps λb o hb hnf=>⟨o,(other b<|noRecord b o hb hnf).trans hb,rfl⟩) hf ((other e<|Ne.symm hTe).trans he) hd (KB.mp h1).1 hK λh' N=>h h' ?_;have hTu:(s.heap.update T (Obj.mapFields (·.setIfInBounds 3 Value.none))).get? T=Ja (oT.mapFields (·.setIfInBounds 3 Value.none)):=Kg _ hT<|Obj.isFreed_of_fields (Obj.data_mapFields hdT _);refine⟨λb o hb hm e1=>N.same b o (λq=>hb<|.inl q) hm<|(other b λq=>hb<|.inr (by rw[q];exact h1)).trans e1,λb o hb e1=>N.slots b o (λq=>hb<|.inl q)<|(other b λq=>hb<|.inr (by rw[q];exact h1)).trans e1,?_,λb hb ho=> ?_⟩
  ·obtain⟨T',oT',ts',o',vs',q1,q2⟩:=N.exc;refine⟨T',oT',ts',o',vs',.inl ?_,q2⟩
   rcases q1 with q1|q1
   ·rw[<-other T' λq=>by rw[q,hTu] at q1;exact sn q1];exact q1
   ·exact absurd q1.1 q2.1
  ·rcases hb with hb|hb
   ·exact N.alive b hb<|by subst hb;exact⟨_,(other b<|Ne.symm hTe).trans he⟩
   ·rw[h1] at hb;cases hb;obtain⟨sl,q⟩:=N.slots T _ hTe hTu;exact⟨_,q⟩
 ·refine YD<|YG he hd h1 ?_;rw[Y8 (show(Value.ref T !=Value.none)=Jc from by simp)];refine YD<|YG hT hdT h3 ?_;rw[Y8 (show((Jx L==Jx L)=Jc) from beq_self_eq_true _)];refine YE ?_;have h3s:=(KB.mp h3).1;refine hK _ _ _ _ he hd h1<|lZ he hd h1 hT hdT h3s (h _ ?_);have hdT':=Obj.data_mapFields hdT (·.setIfInBounds 3 (fo.elim Value.none λf=>Jx f));have other:∀b,b≠T->(s.heap.update T (Obj.mapFields (·.setIfInBounds 3 (fo.elim Value.none λf=>Jx f)))).get? b=s.heap.get? b:=λb hb=>KC _ _<|Ne.symm hb;have hTu:=Kg (Obj.mapFields (·.setIfInBounds 3 (fo.elim Value.none λf=>Jx f))) hT<|Obj.isFreed_of_fields hdT';refine⟨λb o hb o0 e1=>(other b λq=>hb<|.inr (by rw[q];exact h1)).trans e1,λb o hb e1=>⟨o.slots,(other b λq=>hb<|.inr (by rw[q];exact h1)).trans e1⟩,⟨T,_,_,oe,vs,.inr ⟨.inr h1,h1⟩,hTe,(other e<|Ne.symm hTe).trans he,rfl,rfl,hd,h1,rfl,hTu,hdT',?_⟩,λb hb ho=> ?_⟩
  ·rw[Wd h3s]
  ·obtain⟨o,eo⟩:=ho;by_cases q:b=T
   ·subst q;exact⟨_,hTu⟩
   ·exact⟨o,(other b q).trans eo⟩
end
section
variable{C:Cx}{σ:PH}{A:Jj}{Er:Jf->Je->Prop}{s:Je}{l:List Js}
theorem Noted.facts{F:Jg->Prop}{W:Ji}{S:Jg->Prop}{h₀:Ji}(N:Noted l e g vs fo F s.heap W)(m:Sim C σ s.heap)(r:Frs C σ s.heap l)
  (J:∀b,F b->C.B.get? b=Jb/\σ b=Jb/\h₀.get? b=Jb/\∀o,s.heap.get? b=Ja o->∃vs,o.data= .fields vs)(st:Step S B h₀ σ s.heap):
  Sim C σ W/\Step S B h₀ σ W/\(∀b o,¬F b->s.heap.get? b=Ja o->∃o',W.get? b=Ja o'/\Like o o'):=by
 have Q:∀b,b∈frsOf l->σ b=Jb/\C.B.get? b=Jb/\X3 λo U n=>s.heap.get? b=Ja o/\o.data= .dict U n:=λb h=>by
  obtain⟨Y,O,q⟩:=List.mem_filterMap.mp h;obtain⟨o0,L,o,U,n,T,j,X,u,V⟩:=r Y O;obtain rfl:=sj<|q.symm.trans T;exact⟨X,j,o,U,n,u,V⟩
 have y:∀b o,¬F b->s.heap.get? b=Ja o->∃o',W.get? b=Ja o'/\Like o o':=λb o h T=>by
  by_cases v:b∈frsOf l
  ·obtain⟨o0,o0,P,U,n,j,X⟩:=Q b v;obtain rfl:=sj<|T.symm.trans j;obtain⟨I,q⟩:=N.slots b o h T;exact⟨_,q,rfl,rfl,rfl,λk=>absurd X<|k U n⟩
  ·exact⟨o,N.same b o h v T,.refl o⟩
 have H:∀b o,s.heap.get? b=Ja o->∃o',W.get? b=Ja o':=λb o T=>by
  by_cases h:F b
  ·exact N.alive b h ⟨o,T⟩
  ·obtain⟨o',q,o0⟩:=y b o h T;exact⟨o',q⟩
 have t:Step S B h₀ σ W:=by
  refine⟨λb o T j=> ?_,st.grow,st.fix,λb T=> ?_⟩
  ·obtain⟨c,o',Z,K⟩:=st.keep b o T j;have h:¬F b:=λf=>by exact ns (((J b f).2.2.1).symm.trans T)
   obtain⟨P,z,G⟩:=y b o' h Z;exact⟨c,P,z,λk=>(K k).trans G⟩
  ·refine st.live b ?_
   induction q:s.heap.get? b with
   |none=>rfl
   |some o=>obtain⟨o',w⟩:=H b o q;exact ns<|T.symm.trans w
 have M:Step F σ s.heap σ W:=by
  refine⟨λb o T j=> ?_,λb o T=>⟨o,T⟩,λb o T o0=>T,λb T=> ?_⟩
  ·by_cases h:F b
   ·obtain⟨o',w⟩:=N.alive b h ⟨o,T⟩;exact⟨j,o',w,λk=>by obtain⟨x,n,q⟩:=k h;obtain⟨vs,Z⟩:=(J b h).2.2.2 o T;rw[q] at Z;cases Z⟩
   ·obtain⟨o',w,q⟩:=y b o h T;exact⟨j,o',w,λo0=>q⟩
  ·induction q:s.heap.get? b with
   |none=>rfl
   |some o=>obtain⟨o',w⟩:=H b o q;exact ns<|T.symm.trans w
 have same:∀b o,¬F b->b∉frsOf l->s.heap.get? b=Ja o->W.get? b=Ja o:=N.same;refine⟨m.step M (λa o T=> ?_)<|λb o T=> ?_,t,y⟩
 ·obtain⟨R,j,o0⟩:=m.objs a o T;rw[j];exact same a R (λf=>by exact ns<|((J a f).2.1).symm.trans T) (λf=>by exact ns<|((Q a f).1).symm.trans T) j
 ·exact same b o (λf=>by exact ns<|((J b f).1).symm.trans T) (λf=>by exact ns<|((Q b f).2.1).symm.trans T)<|m.base b o T
theorem jF{own fo:Option Jg}{env:Js}{S:Jg->Prop}{Q:Unit->Je->Prop}(ad:A.frames=Ja (env::t))(fr:Frs C σ s.heap (env::t))(hf:env.frame=Ja L)(m:Sim C σ s.heap)
  (f:Fly C own x e σ h₀ s.heap)(ho:∀Z,own=Ja Z->Z=L)(st:Step S B h₀ σ s.heap)
  (hK:∀a s' o' U T,e= .ref a->s'.heap.get? a=Ja o'->o'.data= .fields U->U[1]? =Ja (.ref T)->Jh (Mo C) A (JU e fo) Q Er s'->Jh (Mo C) A K Q Er s')
  (h:∀W,Sim C σ W->Fly C fo x e σ h₀ W->Step S B h₀ σ W->(∃F:Jg->Prop,Step F σ s.heap σ W/\∀b o,F b->s.heap.get? b=Ja o->∃vs,o.data= .fields vs)->(X6 λa oe vs T I E=>A8 (e= .ref a) (W.get? a=Ja oe) (oe.data= .fields vs) (vs[1]? =Ja (.ref T)) (T≠a) (W.get? T=Ja I) (I.data= .fields E)<|E[3]? =Ja (fo.elim Value.none λf=>Jx f))->Q () {s with heap:=W}):
  Jh (Mo C) A (noteFrame e env) (λo0 s'=>Jh (Mo C) A K Q Er s') Er s:=by
 obtain⟨a,o,vs,k,rfl,q2,q3,q4,q5,q6,q7,q8,q9,J,ae⟩:=f;refine wL ad fr.fun hf q5 q8 (λs' o' U T=>hK a s' o' U T rfl) (J.imp id λhq=>by obtain⟨T,I,E,v,X,H,D,Y,V,y,w8⟩:=hq;exact⟨T,I,E,v,X,V,y,w8.imp id λz'=>by obtain⟨Z,z1,z2⟩:=z';rw[<-ho Z z1];exact z2⟩) λW N=> ?_;have j:∀b,(b=a\/vs[1]? =Ja (.ref b))->C.B.get? b=Jb/\σ b=Jb/\h₀.get? b=Jb/\∀o,s.heap.get? b=Ja o->∃vs,o.data= .fields vs:=λb R=>by
  rcases R with rfl|R
  ·exact⟨q2,q3,q4,λo' e'=>by obtain rfl:=sj<|q5.symm.trans e';exact⟨vs,q8⟩⟩
  ·rcases J with J|⟨T,I,E,v,X,H,D,Y,V,y,w8⟩
   ·rw[J] at R;cases R
   ·rw[v] at R;cases R;exact⟨H,D,Y,λo' e'=>by obtain rfl:=sj<|V.symm.trans e';exact⟨E,y⟩⟩
 obtain⟨m',aa,lk⟩:=N.facts m fr j st;have ab:∀b o,s.heap.get? b=Ja o->(∀vs,o.data≠ .fields vs)->¬ (b=a\/vs[1]? =Ja (.ref b)):=λb o P e2 f=>by
  obtain⟨vs,e3⟩:=(j b f).2.2.2 o P;exact e2 vs e3
 have stF:Step (λb=>b=a\/vs[1]? =Ja (.ref b)) σ s.heap σ W:=by
  refine⟨λb O P e2=> ?_,λb o P=>⟨o,P⟩,λb o P o0=>P,λb P=> ?_⟩
  ·by_cases R:b=a\/vs[1]? =Ja (.ref b)
   ·obtain⟨o',w⟩:=N.alive b R ⟨O,P⟩;exact⟨e2,o',w,λk=>by obtain⟨xs,n,q⟩:=k R;obtain⟨vs,q2⟩:=(j b R).2.2.2 O P;rw[q] at q2;cases q2⟩
   ·obtain⟨o',w,q⟩:=lk b O R P;exact⟨e2,o',w,λo0=>q⟩
  ·induction q:s.heap.get? b with
   |none=>rfl
   |some O=>
    by_cases R:b=a\/vs[1]? =Ja (.ref b)
    ·obtain⟨o',w⟩:=N.alive b R ⟨O,q⟩;exact ns<|P.symm.trans w
    ·obtain⟨o',w,o0⟩:=lk b O R q;exact ns<|P.symm.trans w
 refine h W m' ?_ aa ⟨_,stF,λb o f P=>(j b f).2.2.2 o P⟩ ?_
 rotate_left
 ·obtain⟨T,I,E,o',U,v,X,H,D,Y,V,y,w8,w9,M,G⟩:=N.exc;exact⟨a,_,_,T,I,E,rfl,H,V,y,X,w9,M,G⟩
 obtain⟨T,I,E,o',U,v,X,H,D,Y,V,y,w8,w9,M,G⟩:=N.exc;have c:C.B.get? T=Jb/\σ T=Jb/\h₀.get? T=Jb:=by
  rcases v with v|⟨v,o0⟩
  ·refine⟨?_,?_,st.live T v⟩
   ·induction q:C.B.get? T with
    |none=>rfl
    |some o=>exact sn<|(m.base T o q).symm.trans v
   ·induction q:σ T with
    |none=>rfl
    |some o=>obtain⟨O,P,o0⟩:=m.objs T o q;exact ns<|v.symm.trans P
  ·exact⟨(j T v).1,(j T v).2.1,(j T v).2.2.1⟩
 refine⟨a,_,_,k,rfl,q2,q3,q4,H,q6,D.trans q7,V,w8.trans q9,.inr ⟨T,I,E,y,X,c.1,c.2.1,c.2.2,w9,M,?_⟩,?_⟩
 ·induction fo with
  |none=>exact .inl G
  |some Z=>exact .inr ⟨Z,rfl,G⟩
 ·rw[Y]
  induction ae with
  |no f e=>exact .no f e
  |at_ f d od e b n z g r=>
   obtain⟨es,ep,r1,r2,r3,r4⟩:=r;obtain⟨o',g',ac⟩:=lk d od (ab d od g λvs q=>by rw[r1] at q;cases q) g;exact .at_ f d o' e b n z g' ⟨es,ep,ac.2.2.1.trans r1,r2,λi f p h1 h2=>by obtain⟨u,a,b⟩:=r3 i f p h1 h2;exact⟨u,a,VR.step stF _ _ b⟩,r4⟩
theorem sB{own:Option Jg}{env:Js}{S:Jg->Prop}{Q:Unit->Je->Prop}(r:A.frames=Ja (env::o))(O:Frs C σ s.heap (env::o))(w:env.frame=Ja L)(m:Sim C σ s.heap)
  (f:Fly C own x e σ h₀ s.heap)(d:∀Z,own=Ja Z->Z=L)(st:Step S B h₀ σ s.heap)
  (h:∀W,Sim C σ W->Fly C Jb x e σ h₀ W->Step S B h₀ σ W->Q () {s with heap:=W}):
  Jh (Mo C) A (leaving env e) Q Er s:=by
 unfold leaving;exact YD<|jF (K:=JU e Jb) r O w m f d st (λo0 o0 o0 o0 o0 o0 o0 o0 o0 z=>z) λW a b c o0 o0=>h W a b c
end
section
set_option backward.match.sparseCases true
noncomputable def rho0(ps l:List String)(args:List PV):Rho:=ps.zip (args.map Ja)++l.map λx=>(x,Jb)
theorem lx{l:List String}{P:Prop}(h:Rho.get (l.map λx=>(x,Jb)) x=Ja p):P:=by
 induction l with
 |nil=>exact ns h
 |cons y r i=>
  have h:(if y=x then Jb else Rho.get (r.map λx=>(x,Jb)) x)=Ja p:=h;by_cases e:y=x
  ·exact ns<|(Y8 e).symm.trans h
  ·exact i<|(Y7 e).symm.trans h
theorem oS{args:List PV}:(rho0 ps l args).get x=Ja p->∃i:Nat,ps[i]? =Ja x/\args[i]? =Ja p:=by
 induction ps generalizing args with
 |nil=>exact λh=>lx h
 |cons q ps W=>
  rcases args with o0|⟨a,args⟩
  ·exact λh=>lx h
  intro h;have h:(if q=x then Ja a else(rho0 ps l args).get x)=Ja p:=h;by_cases e:q=x
  ·rw[e,<-sj ((Y8 e).symm.trans h)];exact⟨0,rfl,rfl⟩
  ·obtain⟨i,N,Y⟩:=W<|(Y7 e).symm.trans h;exact⟨i+1,N,Y⟩
section
variable{k:Jq->Option JX}
theorem n7:∀ (b:List (Jq×Jf)) (m:Jq->Option Jf) (x:Jq),x∉b.map (·.1)->bindL k b m x=m x
 |[]=>λm x h=>rfl
 |(n,v)::r=>λm x h=>by
  simp only[Qq,Qt,not_or] at h;unfold bindL;rw[n7 r _ x h.2]
  split
  ·exact Y7 h.1
  ·rfl
theorem oU:∀ (b:List (Jq×Jf)) (m:Jq->Option Jf) (x:Jq),x∉b.map (·.1)->PySem.bindC k b m x=m x
 |[]=>λm x h=>rfl
 |(n,v)::r=>λm x h=>by
  simp only[Qq,Qt,not_or] at h;unfold PySem.bindC;rw[oU r _ x h.2]
  split
  ·rfl
  ·exact Y7 h.1
theorem lc:∀ (ns:List Jq) (vs:List Jf) (m:Jq->Option Jf) (i:Nat) (x:Jq) (v:Jf),ns.Nodup->ns[i]? =Ja x->vs[i]? =Ja v->k x=Ja .local->bindL k (ns.zip vs) m x=Ja v
 |[],_=>λo0 i x v o0 h o0 o0=>by simp at h
 |_::_,[]=>λo0 i x v o0 o0 h o0=>by simp at h
 |n::ns,w::vs=>λm i x v d N Y M=>by
  rw[Qy] at d;simp only[Wy];unfold bindL
  induction i using Nat.casesOn with
  |zero=>
   simp at N Y;subst N Y;rw[n7 _ _ _ (by rintro q;obtain⟨p,D,e⟩:=Ql.mp q;have:=(Kx (show(p.1,p.2)∈_ from D)).1;rw[e] at this;exact d.1 this),Y8 M,Y8 rfl]
  |succ j=>exact lc ns vs _ j x v d.2 (by simpa using N) (by simpa using Y) M
theorem ph:∀ (ns:List Jq) (vs:List Jf) (m:Jq->Option Jf) (i:Nat) (x:Jq) (v:Jf),ns.Nodup->ns[i]? =Ja x->vs[i]? =Ja v->k x=Ja .cell->PySem.bindC k (ns.zip vs) m x=Ja v
 |[],_=>λo0 i x v o0 h o0 o0=>by simp at h
 |_::_,[]=>λo0 i x v o0 o0 h o0=>by simp at h
 |n::ns,w::vs=>λm i x v d N Y M=>by
  rw[Qy] at d;simp only[Wy];unfold PySem.bindC
  induction i using Nat.casesOn with
  |zero=>
   simp at N Y;subst N Y;rw[oU _ _ _ (by rintro q;obtain⟨p,D,e⟩:=Ql.mp q;have:=(Kx (show(p.1,p.2)∈_ from D)).1;rw[e] at this;exact d.1 this),Y7<|by rw[M];simp,Y8 rfl]
  |succ j=>exact ph ns vs _ j x v d.2 (by simpa using N) (by simpa using Y) M
end
structure FnIn(B:Ji)(ps:List String)(a:Jg)(o:Jp)(fd:Jr)(body:List Jo):Prop where
 ho:B.get? a=Ja o
 hd:o.data= .func fd
 cd:B.CodeRec fd.code fd.qualname
 hb:fd.body= .stmts body
 clo:fd.closure=[]
 glb:fd.globals=JA
 blt:fd.builtins=builtinsNs
 bind:∀vals:List Jf,vals.length=ps.length->YY fd ⟨vals,[]⟩=pure ((ps.map Qb).zip vals)
 par:(ps.all λp=>fd.scope.names.lookup (Qb p)==Ja .local||fd.scope.names.lookup (Qb p)==Ja .cell)=Jc
 nd:ps.Nodup
 co:fd.scope.isCoroutine=Jd
 gen:fd.scope.isGenerator=Jd
 kind:fd.scope.kind= .function
 free:(fd.scope.names.all λp=>p.2 != .free)=Jc
theorem FnIn.keeps{B e:Ji}(F:FnIn B ps a o f body)(kp:∀b o,B.get? b=Ja o->e.get? b=Ja o):FnIn e ps a o f body:=
 ⟨kp _ _ F.ho,F.hd,F.cd.keeps kp,F.hb,F.clo,F.glb,F.blt,F.bind,F.par,F.nd,F.co,F.gen,F.kind,F.free⟩
structure FnAt(C:Cx)(f:String)(ps:List String)(sts:List S)(a:Jg)(o:Jp)(fd:Jr)(body:List Jo):Prop extends FnIn C.B ps a o fd body where
 fv:C.fv f=Ja (.ref a)
 kp:Kp C (.ref a)
 mat:mSs fd.scope sts body=Jc
section
variable{C:Cx}{G:Gx}{mg mb:Jq->Option Jf}{n:Nat}
theorem cU{l:List String}(h:l.Nodup):(l.map Qb).Nodup:=by
 induction l with
 |nil=>exact List.nodup_nil
 |cons x r i=>
  rw[Qy] at h;rw[Qq,Qy];exact⟨λq=>by obtain⟨y,W,e⟩:=Ql.mp q;rw[ofString_inj e] at W;exact h.1 W,i h.2⟩
theorem o9(g:GOK C G mg mb){ps:List String}{d:Jr}(F:FnIn C.B ps a o d body){args:List PV}(ls:List String)(u:args.length=ps.length){A:Jj}{s:Je}(H:AOK C (n+1) A l σ s.heap)(m:Sim C σ s.heap)(hv:VRs C σ s.heap args vs){R:Result->Je->Prop}
  (k:∀env w,ScR d.scope env->EnvR C env (rho0 ps ls args) σ w.heap->Sim C σ w.heap->Step none1 σ s.heap σ w.heap->Rest s w->AOK C n (A.deeper env) (env::l) σ w.heap->env.frame=Ja env.locals->env.locals=s.heap.objs.size->(∀x c,env.cells.lookup x=Ja c->s.heap.objs.size<=c)->
   (∀ {σ':PH} {s':Je},Step (ownE env) σ w.heap σ' s'.heap->Step none1 σ s.heap σ' s'.heap)->
   Jh (Mo C) (A.deeper env) (execs body env) (λf s'=>R (.ok (.ret (match f with| .ret v=>v|_=> .none))) s') (λe s'=>Jh (Mo C) (A.deeper env) (leaving env e) (λo0 W=>R (.error e) W) (λe' W=>R (.error e') W) s') w):codeAny (Mo C) A (.call (.ref a) ⟨vs,[]⟩) R s:=by
 have j:vs.length=ps.length:=hv.length.trans u;have N:A.depth<J1:=by have:=H.depth;exact zl (zle (QO _ _)<|QO _ _) this
 have L:∀p∈ps,d.scope.names.lookup (Qb p)=Ja .local\/d.scope.names.lookup (Qb p)=Ja .cell:=λp U=>by
  have:=Qx.mp F.par p U;simpa [Yv] using this
 refine codeAny_call_cells N (m.base _ _ F.ho) F.hd (g.nolimit.keeps m.base) (F.cd.keeps m.base) F.hb (F.bind vs j) F.clo (λx hx=> ?_) (λw r=> ?_) F.co F.gen F.kind
 ·have M:x.1∈ps.map Qb:=(Kx (show(x.1,x.2)∈_ from hx)).1;obtain⟨p,U,e⟩:=Ql.mp M;rw[<-e];refine(L p U).imp id λq=>⟨q,?_⟩
  obtain⟨c,o0,Z⟩:=fu d.scope.names (s.heap.objs.size+1) [] _ (Jv q);rw[Z];rfl
 generalize O:callEnvC d s.heap.objs.size a=env at r ⊢;have Y:env.locals=s.heap.objs.size:=by rw[<-O];rfl
 have T:∀x,env.kindOf x=d.scope.names.lookup x:=λx=>by rw[<-O];rfl
 have E:env.cells=JQ (s.heap.objs.size+1) d.scope.names []:=by rw[<-O];rfl
 have z:∀x c,env.cells.lookup x=Ja c->s.heap.objs.size<=c:=λx c h=>by
  have:=r.above x c<|mem_of_lookup h;rw[Y] at this;exact Kv this
 have kp:∀b o,s.heap.get? b=Ja o->w.heap.get? b=Ja o:=r.toInCall.keep;have P:Step none1 σ s.heap σ w.heap:= .more kp;have m1:Sim C σ w.heap:=m.more kp;have r1:Rest s w:=by obtain⟨h',tk,e⟩:=r.toInCall.same;rw[e];exact⟨rfl,rfl⟩
 have K:=hv.step P;have ev:EnvR C env (rho0 ps ls args) σ w.heap:=by
  refine⟨by rw[<-O];exact F.kind,by rw[<-O];exact F.glb,by rw[<-O];exact F.blt,⟨_,r.toInCall.ns,λx p e1 I=> ?_⟩,λx p e1 I=> ?_,by rw[Y];exact m.fresh (QA _),by rw[Y];exact m.freshB (QA _),
   λx c h=>m.freshB (z x c h),λx c h=>⟨m.fresh (z x c h),_,r.cell x c h⟩,λx y c D Q=>name_of_addr r.apart (Jv D) (Jv Q),λx h=> ?_⟩
  ·obtain⟨i,D,Q⟩:=oS e1;obtain⟨v,J,S⟩:=K.get i p Q;refine⟨v,lc _ _ _ i _ v (cU F.nd) (by rw[Qu,D];rfl) J I,S⟩
  ·obtain⟨i,D,Q⟩:=oS e1;obtain⟨v,J,S⟩:=K.get i p Q;have t:env.kindOf (Qb x)=Ja .cell:=I.resolve_right λq=>by
    rw[T] at q;have:=Qx.mp F.free _<|mem_of_lookup q;simp at this
   obtain⟨c,o0,Z⟩:=fu d.scope.names (s.heap.objs.size+1) [] _ (Jv<|by rw[<-T];exact t);rw[<-E] at Z;refine⟨c,v,Z,?_,S⟩;have:=r.cell _ c Z;rw[ph _ _ _ i _ v (cU F.nd) (by rw[Qu,D];rfl) J t] at this;exact this
  ·rcases h with h|h
   ·obtain⟨c,o0,Z⟩:=fu d.scope.names (s.heap.objs.size+1) [] _ (Jv<|by rw[<-T];exact h);exact⟨c,by rw[E];exact Z⟩
   ·rw[T] at h;have:=Qx.mp F.free _<|mem_of_lookup h;simp at this
 have B:AOK C n (A.deeper env) (env::l) σ w.heap:=by
  refine⟨?_,?_,?_,?_,H.calm⟩
  ·have:=H.depth;show A.depth+1+n+2<_;exact zl (Kk (QT<|QL _ _ _) 2) this
  ·have:=H.units;show A.units+3+30*n+300<_;exact zr6 this
  ·show A.frames.map (env:: ·)=_;rw[H.stack];rfl
  ·intro en V
   rcases Qt.mp V with rfl|V
   ·obtain⟨o',es,ep,q1,q2,o0⟩:=r.toInCall.ns;refine⟨by rw[ev.fn];simp,en.locals,o',es,ep,by rw[<-O];rfl,by rw[Y];exact m.freshB<|QA _,by rw[Y];exact m.fresh<|QA _,q1,q2⟩
   ·exact(H.step P).frs en V
 have sr:ScR d.scope env:=by
  have:d.scope=env.scope:=by rw[<-O];rfl
  rw[this];exact .self env
 have back:∀ {σ':PH} {s':Je},Step (ownE env) σ w.heap σ' s'.heap->Step none1 σ s.heap σ' s'.heap:=λ{σ' s'} st=>(P.own.trans st).mono λb hb q=>by
  have X:b<s.heap.objs.size:=by
   induction e:s.heap.get? b with
   |none=>rw[e] at hb;exact ft hb
   |some o=>exact QJ e
  rcases q with q|⟨x,q⟩
  ·rw[q,Y] at X;exact(KH _ X).elim
  ·exact(KH _<|QK X (z x b q)).elim
 exact k env w sr ev m1 P r1 B (by rw[<-O];rfl) Y z back
theorem AY(T:Todo C G n)(T2:Todo2 C G n)(Tu:Todo C.un G.un n)(T2u:Todo2 C.un G.un n)(g:GOK C G mg mb){ps:List String}(F:FnAt C f ps sts a o fd body)
  {args:List PV}(ls:List String)(hlen:args.length=ps.length)
  (w:wss G (aO C n) (aO C.un n) sts (rho0 ps ls args) σ (λfl o0 σ'=>match fl with
   | .next=>Q .none σ'
   | .ret v=>Q v σ') λx o0 σ'=>X x σ'):aO C (n+1) f args σ Q X:=by
 refine⟨.ref a,F.fv,F.kp,λA l s vs ak m hv=>wpAny_call<|o9 g F.toFnIn ls hlen ak m hv λenv s₁ sr ev m1 st1 r1 ak1 hfr hloc habove back=> ?_⟩;refine YF (hP sts C G T T2 Tu T2u g fd.scope body F.mat ⟨⟨sr,ev,m1,ak1⟩,l,rfl,hfr⟩ w) (λfl s' h=> ?_) λx s' h=> ?_
 ·obtain⟨f',ρ',σ',h1,o0,m',st',r',o0,w⟩:=h
  induction f' with
  |next=>
   simp only[FR] at h1;subst h1;exact⟨.none,σ',mq,m',back st',r1.trans r',w⟩
  |ret p=>
   obtain⟨v,rfl,hv'⟩:=h1;exact⟨p,σ',hv',m',back st',r1.trans r',w⟩
 ·obtain⟨x,ρ',σ',fl,o0,m',st',r',ak',w⟩:=h;have fl0:Fly C env.frame x _ σ' s.heap s'.heap:=fl.from st1;exact sB ak'.stack ak'.frs hfr m' fl0 (λL' q=>by obtain rfl:=sj<|hfr.symm.trans q;rfl) (back st') λh' m2 fl2 st2=>⟨x,σ',fl2,m2,st2,r1.trans r',w⟩
end
end
section
open PySem.W PyProof.Rows
noncomputable abbrev bmV:List Jf:=[.type "ValueError",.type "Exception",.type "BaseException",.type "object"]
inductive IniAt(B:Ji)(K:Frag)(k:Jg)(names:List String):Prop
 |mk (bm:List Jf) (N:Jg) (nm q:Jq) (bs:List Jf) (sn:List Jq) (sub:List Jf) (ab:Bool) (col:Option Bool) (dd:Option Jg) (k0 k1 k2 k3 k5:Option Jf) (mN:Jq->Option Jf) (fI:Jg) (oI:Jp) (fd:Jr) (body:List Jo)
  (hC:B.get? k=Ja (JF nm q k N bs bm Jc sn sub ab col dd k0 k1 k2 k3 k5 "ValueError.__new__")) (hN:B.Ns N mN) (hi:mN "__init__"=Ja (.ref fI)) (T:J2 B bmE bm) (ho:B.get? fI=Ja oI) (hfc:oI.cls= .type "function") (hd:oI.data= .func fd)
  (cd:B.CodeRec fd.code fd.qualname) (hb:fd.body= .stmts body) (clo:fd.closure=[]) (bind:∀vals:List Jf,vals.length=names.length+1->YY fd ⟨vals,[]⟩=pure ((("self"::names).map Qb).zip vals))
  (par:∀x∈"self"::names,fd.scope.names.lookup (Qb x)=Ja .local/\(Qb x==("__debug__":Jq))=Jd) (nd:("self"::names).Nodup) (co:fd.scope.isCoroutine=Jd) (gen:fd.scope.isGenerator=Jd) (kind:fd.scope.kind= .function)
  (mat:mIni fd.scope names body=Jc) (sa:findIn K (.ref k) "__setattr__"=Ja (Ja<|.builtin "object.__setattr__")) (len:names≠ []/\names.length<=50):IniAt B K k names
structure InstK(C:Cx)(G:Gx)(c:String)(k:Jg):Prop where
 ga:findIn C.K (.ref k) "__getattribute__"=Ja (Ja<|.builtin "object.__getattribute__")
 gh:findIn C.K (.ref k) "__getattr__"=Ja Jb
 dct:hasDictIn C.K k=Jc
 fl:∀f∈G.flds c,findIn C.K (.ref k) (Qb f)=Ja Jb
 me:∀f v,bN f=Jd->cOf f=c->C.fv f=Ja v->∃a,A4 (v= .ref a) (findIn C.K (.ref k) (Qb<|mOf f)=Ja (Ja<|.ref a)) (typeIn C.K (.ref a)=Ja (.type "function")) (∀x∈C.flds c,Qb (mOf f)≠Qb x)
structure ExcOK(C:Cx)(G:Gx)(mg mb:Jq->Option Jf):Prop where
 kin:Frag.In C.K C.B
 cls:∀c k,C.cls c=Ja k->mg (Qb c)=Ja (.ref k)
 has:∀c,G.cs.contains c=Jc->∃k,C.cls c=Ja k
 hasM:∀c,G.mks.contains c=Jc->∃k,C.cls c=Ja k
 sub:∀c k d kd,C.cls c=Ja k->C.cls d=Ja kd->exmOne C.K (.ref k) (.ref kd)=Ja (G.sub c d)
 fl:∀c,G.flds c=C.flds c
 flm:∀c,G.mks.contains c=Jc->G.flds c=[]
 fld:∀c k f,C.cls c=Ja k->f∈G.flds c->findIn C.K (.ref k) (Qb f)=Ja Jb
 ini:∀c,G.inis.contains c=Jc->∃k,C.cls c=Ja k/\IniAt C.B C.K k (G.flds c)
 make:∀c k,C.cls c=Ja k->G.mks.contains c=Jc->OwnCls (Qb c) k bmV "ValueError.__new__" mg C.B
 ins:∀c k,C.icl c=Ja k->InstK C G c k
theorem ExcOK.un{C:Cx}{G:Gx}{mg mb:Jq->Option Jf}(X:ExcOK C G mg mb):ExcOK C.un G.un mg mb:=⟨X.kin,X.cls,X.has,X.hasM,X.sub,X.fl,X.flm,X.fld,X.ini,X.make,λc k h=>⟨(X.ins c k h).ga,(X.ins c k h).gh,(X.ins c k h).dct,(X.ins c k h).fl,(X.ins c k h).me⟩⟩
section
variable{C:Cx}{G:Gx}{mg mb:Jq->Option Jf}{n:Nat}{A:Jj}{Er:Jf->Je->Prop}{env:Js}{ρ:Rho}{σ:PH}{s:Je}
theorem _root_.PySem.W.InstAt.keeps{h S:Ji}{x D:Jg}{d:Option Jp}(I:InstAt h x j D d)(k:∀b o,h.get? b=Ja o->S.get? b=Ja o):InstAt S x j D d:=by
 refine⟨k _ _ I.at_,I.cls,I.no,?_⟩;have:=I.dict;cases N:j.dict<;>rcases d with⟨⟩<;>rw[N] at this<;>first|exact this|exact k _ _ this
theorem r8(r:VR C σ h p v):handedOut v=pure v:=by
 induction p using PV.casesOn with
 |none=>cases (show v= .none from r);rfl
 |bool b=>cases (show v= .bool b from r);rfl
 |int i=>obtain⟨t,rfl⟩:=r;rfl
 |str i=>obtain⟨t,rfl⟩:=r;rfl
 |tup l=>obtain⟨a,n,w,rfl,o0⟩:=r;rfl
 |ref a=>cases (show v= .ref a from r);rfl
 |scr l=>obtain⟨a,o,n,w,rfl,o0⟩:=r;rfl
theorem wr{c:String}{l:List PV}{o:Jp}{h:Ji}{j:Nat}{f:String}{p:PV}(r:FD C σ h c l o)(N:(C.flds c)[j]? =Ja f)(Y:l[j]? =Ja p):∃v,lookIn (Qb f) o=Ja (Ja v)/\VR C σ h p v:=by
 obtain⟨U,H,e,k,v,o0⟩:=r;obtain⟨u,a,b⟩:=v j f p N Y;refine⟨u,?_,b⟩;unfold nsFind findBy at a;rw[<-Array.find?_toList] at a;obtain⟨d,q,Z⟩:=Qs.mp a;unfold lookIn;rw[e];show(match U.toList.find? (·.key.isStr (Qb f)) with
   |some e=>Ja<|Ja e.val
   |none=>if U.toList.any (·.refKey) then Jb else Ja Jb)=_
 rw[q,<-Z]
theorem v8(h:pfd G f o=Ja u):X3 λc l j=>A3 (o=Ja (.fd c l)) ((G.flds c).idxOf? f=Ja j) (l[j]? =Ja u):=by
 induction o with
 |none=>exact onx h
 |some P=>
  induction P with
  |fd c l=>
   obtain⟨j,J,w⟩:=Qr.mp (show((G.flds c).idxOf? f).bind (λj=>l[j]?)=Ja u from h);exact⟨c,l,j,rfl,J,w⟩
  |_=>exact onx h
theorem sV(h:pattr G σ f v=Ja u):X2 λb d=>A3 (v= .ref b) (σ b=Ja (.inst d)) (pfd G f (σ d)=Ja u):=by
 induction v using PV.casesOn with
 |ref b=>
  replace h:pfld G σ f (σ b)=Ja u:=h
  induction e:σ b with
  |none=>rw[e] at h;exact onx h
  |some o=>
   rw[e] at h
   induction o with
   |inst d=>exact⟨b,d,rfl,e,h⟩
   |_=>exact onx h
 |_=>exact onx h
theorem tq{K:Frag}{D:Jg}{o:Jp}{f:Jq}{v:Jf}(h:hasDictIn K D=Jc)(i:findIn K (.ref D) f=Ja Jb)(l:lookIn f o=Ja (Ja v)):findObj K D (Ja o) f=Ja (.value v):=by
 obtain⟨I,c,d⟩:=any_some h;unfold findObj;rw[c,KY,i,KY,KY,KY];show(W.ownOf I (Ja o) f).bind _=_;unfold W.ownOf;rw[Y8 d];show(lookIn f o).bind _=_;rw[l];rfl
theorem vZ{l:List String}(h:l.idxOf? f=Ja j):l[j]? =Ja f:=by
 obtain⟨T,e⟩:=List.idxOf?_eq_some_iff.mp h;rw[Qg T];exact Ub Ja e.1
theorem rK{E:Jf->Je->Prop}{Q:Jf->Je->Prop}{s:Je}{K:Frag}{x D:Jg}(a:findIn K (.ref D) "__getattribute__"=Ja (Ja (.builtin "object.__getattribute__")))
  (W:findObj K D o f=Ja (.value v))(hv:handedOut v=pure v)(X:K.In s.heap)(I:InstAt s.heap x j D o)(h:Q v {s with toks:=s.toks+1}):Jh (Jt prog w) A (getAttr (.ref x) f Jc) Q E s:=by
 refine get_open X I a ?_;obtain⟨H,g,d,t,m⟩:=s;refine YD<|YE (YD<|(I.type (M:=Jt prog w)).at (YD<|(looks_find (M:=Jt prog w) X I W).at ?_));refine YE ?_;show Jh _ _ (handedOut v) _ _ _;rw[hv];exact YE h
theorem rP{o:Jp}(h:∀c,o.data≠ .cls c):notCls o=Jc:=by
 obtain⟨a,b,d,e⟩:=o
 rcases d with⟨⟩<;>first|rfl|exact absurd rfl<|h _
theorem ss(X:ExcOK C G mg mb){sc:Jk}{x f:String}{q p:Pos}(N:isLoc sc (Qb x)=Jc)(B:bG (Qb x)=Jc):EvOK C G n sc (.attr x f) (.Attribute (.Name (Qb x) q) (Qb f) p):=λ{env ρ A l σ s Q M} R w=>by
 have m:=R.m;obtain⟨v,hx,w⟩:=jC (show oV (λv=>oV (λu=>Q u σ)<|pattr G σ f v) (ρ.get x) from w);obtain⟨u,i,U⟩:=jC w;obtain⟨b,d,rfl,S,t⟩:=sV i;obtain⟨c,z,j,e,J,T⟩:=v8 t;obtain⟨o,g,r⟩:=m.objs _ _ e;have H:(G.flds c)[j]? =Ja f:=vZ J;obtain⟨v,h,hv⟩:=wr r ((X.fl c)▸H) T;rw[arm_eval_Attribute];show Jh (Mo C) A (Jw (.Name (Qb x) q) env>>=_) _ _ s;refine YD (k4 R.ev (jL R.sr N) B hx λL F=> ?_);rw[show L= .ref b from F];refine YD<|YI (YD<|YH ?_);obtain⟨W,Z,y,k,P,Y,V,O,E,D⟩:=m.objs _ _ S;rw[e] at D;cases D;have I:InstAt s.heap b W k (Ja o):=⟨Z,Y,rP V,by rw[O];exact g⟩
 have K:=X.ins _ k P;exact rK K.ga (tq K.dct (K.fl f<|Qz H) h) (r8 hv) (X.kin.keeps m.base) I<|YD (wpAny_of_eq (a:=()) rfl<|YE (VP.here m rfl ⟨rfl,rfl⟩ hv U))
theorem getM{E:Jf->Je->Prop}{h:Ji}{K:Frag}{x k d a:Jg}{o:Jp}{pl:Sem Bool}{mm:Jq->Option Jf}{Q:Jf×List Jf->Je->Prop}(X:K.In h)(hx:h.get? x=Ja o)(v:o.cls= .ref k)(O:o.dict=Ja d)(m:h.Ns d mm)(hsh:mm name=Jb)
  (V:findIn K (.ref k) "__getattribute__"=Ja (Ja<|.builtin "object.__getattribute__"))(T:findIn K (.ref k) "__getattr__"=Ja Jb)(f:findIn K (.ref k) name=Ja (Ja<|.ref a))(W:typeIn K (.ref a)=Ja (.type "function"))(q:Q (.ref a,[.ref x]) ⟨h,g,r,t,R⟩):
  Jh (Jt prog w) A (getMethod (.ref x) name pl) Q E ⟨h,g,r,t,R⟩:=by
 have c:=F.canon_object_ga;have U:=looks_findIn (M:=Jt prog w) X V;have N:=looks_findIn (M:=Jt prog w) X T;have Z:=looks_findIn (M:=Jt prog w) X f;have z:=looks_typeIn (M:=Jt prog w) X W;unfold getMethod specialOf;have L:Looks (Jt prog w) h (typeOf<|.ref x) (.ref k):=v▸(Looks.ld hx).andThen .now;refine YD<|YD (L.at<|U.at ?_);simp only[c,Bool.false_eq_true,if_false];refine YD<|YD (L.at<|N.at ?_);refine wn QF ?_;refine YD<|YD (L.at<|Z.at ?_);dsimp only;refine YD<|z.at ?_;refine wn (by decide) ?_;refine YD<|wpAny_loadPart_at hx ?_;rw[O];refine YD<|wpAny_nsGet m ?_;rw[hsh];refine wn QF ?_;exact YD<|wpAny_rule (YE q)
end
end
section
open PySem.W PyProof.Rows
section
variable{C:Cx}{G:Gx}{mg mb:Jq->Option Jf}{n:Nat}
theorem sm{E:Jf->Je->Prop}{a pos:Pos}{args:List Jl}{Q:Jf->Je->Prop}(O:attributeBase o name env (Jw o env)=Jw o env)
  (f:methodCallForm (args.length+([]:List Keyword).length) (JY pos<|starEach args env) (backToKw pos<|keywordEach [] env)=Jc)(l:(a.endLine==pos.line)=Jc)
  (h:Jh (Jt prog w) A (Jw o env) (λv m=>∀pl:Sem Bool,Jh (Jt prog w) A (getMethod v name pl) (λr b=>Jh (Jt prog w) A (callWith pos r.1 r.2 (JY pos<|starEach args env)<|backToKw pos (J3 [] env)) Q E b) E m) E s):
  Jh (Jt prog w) A (Jw (.Call (.Attribute o name a) args [] pos) env) Q E s:=by
 rw[arm_eval_Call,O];refine YD (YF h (λv m V=> ?_) λo0 o0 e=>e);refine YD<|YI ?_;have p:methodCallPos Jc o env a pos=pure pos:=by unfold methodCallPos;simp[l]
 unfold methodCall;rw[f];refine YD<|YH (YF (V _) (λr b q=> ?_) λo0 o0 e=>e);exact YD<|wpAny_of_eq p q
theorem sO{as:List Jl}(h:d8 as=Jc)(l:as.length<=20):methodCallForm (as.length+([]:List Keyword).length) (JY pos (JE as env)) (backToKw pos (J3 [] env))=Jc:=by
 have s:=i0 (pos:=pos) (env:=env) h;show((JY pos<|starEach as env).all (λx=> !x.1)&&Jc&&decide (as.length+0+0<30))=Jc;rw[<-List.not_any_eq_all_not,s,Y4 (show as.length+0+0<30 from zb1 l rfl)];rfl
theorem pu(g:GOK C G mg mb)(X:ExcOK C G mg mb){args:List E}{as:List Jl}{p q:Pos}(H:EvOK C G n sc o y)(h2:eP y=Jc)(h5:(p.endLine==q.line)=Jc)(h:Evs C G n sc args as)(h4:as.length<=20)(K:bN f=Jd)(h7:cOf f=c):EvOK C G n sc (.mcall c f o args) (.Call (.Attribute y (Qb (mOf f)) p) as [] q):=λ{ab ρ A l σ s Q X'} I w=>by
 obtain⟨v,hv,kp⟩:=g.fn f w.1;refine sm (nA h2) (sO h.plain h4) h5 ?_;refine EOK.then (H I w.2) λv1 s1 p1 O u m t r Z=> ?_;obtain⟨b,d,fs,rfl,e1,D⟩:=xf Z.1;rw[show v1= .ref b from u];obtain⟨ob,R,ci,k,P,k2,k3,k5,W,N⟩:=m.objs _ _ e1;rw[D] at N;cases N;obtain⟨od,g2,j,ep,B,i,o0,Y⟩:=m.objs _ _ D;obtain⟨a,rfl,f1,f2,L⟩:=(X.ins _ k P).me f v K h7 hv;intro pl;obtain⟨hh,gg,dr,tk,os⟩:=s1;refine getM (X.kin.keeps m.base) R k2 k5 (mm:=λz=>nsFind j z) ⟨od,j,ep,g2,B,i,λo0=>rfl⟩ (Y _ L) (X.ins _ k P).ga (X.ins _ k P).gh f1 f2 ?_;refine eU (first:=[.ref b]) kp h.plain ?_;refine YF (jD h (I.step t m) Z.2) (λJ s2 T=> ?_) λo0 o0 x=>XP.from t r x;obtain⟨ps,aa,U,F,V,M,hn,w2⟩:=T;obtain⟨v',e,o0,S⟩:=w2;obtain rfl:=sj<|hv.symm.trans e;exact⟨F.base,YF (S A l s2 (.ref b::J) ((I.ak.step t).step V) F ⟨.ref b,J,rfl,rfl,U⟩) (λo0 o0 x=>VP.from t r<|VP.from V M x) λo0 o0 x=>XP.from t r<|XP.from V M x⟩
end
end
section
open PySem.W PyProof.Rows
section
variable{C:Cx}{G:Gx}{mg mb:Jq->Option Jf}{n:Nat}{A:Jj}{env:Js}{ρ:Rho}{σ:PH}{s:Je}{l:List Js}
theorem dF{h:Ji}(m:Sim C σ h)(n:h.get? e=Jb):C.B.get? e=Jb/\σ e=Jb:=by
 constructor
 ·induction q:C.B.get? e with
  |none=>rfl
  |some o=>exact ns<|n.symm.trans (m.base e o q)
 ·induction q:σ e with
  |none=>rfl
  |some o=>obtain⟨b,z,o0⟩:=m.objs e o q;exact ns<|n.symm.trans z
inductive ExCls(h:Ji)(k:Jg):Prop
 |mk (nm q:Jq) (N:Jg) (bs bm:List Jf) (hdct:Bool) (sn:List Jq) (sub:List Jf) (ab:Bool) (col:Option Bool) (dd:Option Jg) (k0 k1 k2 k3 k5:Option Jf) (newId:String) (hC:h.get? k=Ja (JF nm q k N bs bm hdct sn sub ab col dd k0 k1 k2 k3 k5 newId)) (hb:bm.contains (.type "BaseException")=Jc):ExCls h k
theorem ExCls.keeps{h S:Ji}(x:ExCls h k)(kp:∀b o,h.get? b=Ja o->S.get? b=Ja o):ExCls S k:=by
 obtain⟨nm,q,N,bs,m,d,sn,sub,a,c,U,W,P,X,F,O,e,M,R⟩:=x;exact⟨nm,q,N,bs,m,d,sn,sub,a,c,U,W,P,X,F,O,e,kp _ _ M,R⟩
theorem ExCls.kp(x:ExCls C.B k):Kp C (.ref k):=by
 obtain⟨nm,B,N,bs,b,h,sn,sub,a,c,d,S,P,U,F,O,e,M,R⟩:=x;exact⟨.machine,.inr<|.inl rfl,λA Q E s kp q=>wpAny_keeperOf_exc (kp _ _ M) q⟩
inductive RP(k:Jg)(E:Jf->Je->Prop)(v:Jf)(s:Je):Prop
 |mk (e t:Jg) (dx:Option Jg) (hv:v= .ref e) (x:ExCls s.heap k) (he:s.heap.get? e=Ja {cls:= .ref k,dict:=dx,data:= .fields #[.ref t,.none,.none,.none,.bool Jd,.none]}) (hE:E (.ref e) s):RP k E v s
theorem pi{E:Jf->Je->Prop}{Q:Flow->Je->Prop}(U:A.handled=Jb)(h:Jh M A x (RP k E) E s):
  Jh M A (raiseStmt env (Ja x) Jb) Q E s:=by
 unfold raiseStmt;refine YD (YF h (λv m V=> ?_) λo0 o0 x=>x);obtain⟨e,t,u,rfl,x,O,I⟩:=V;obtain⟨nm,q,N,bs,b,y,sn,sub,a,o,f,S,P,X,F,T,w,i,R⟩:=x;have c:(Value.ref k::b).contains (.type "BaseException")=Jc:=by rw[Wa,R,Bool.or_true]
 obtain⟨p,g,d,tk,Z⟩:=m
 repeat (first|with_reducible refine Jy O ?_|with_reducible refine Jy i ?_|(with_reducible refine YU i ?_;rw[c])|wp_step)
 exact wpAny_raiseNew_none U I
theorem ug{E:Jf->Je->Prop}{Q:Flow->Je->Prop}(U:A.handled=Jb)(h:Jh M A (Jw e env) (RP k E) E s):Jh M A (exec (.Raise (Ja e) Jb pos) env) Q E s:=by
 rw[arm_exec_Raise];exact YD<|YI (pi U<|YD (YF h (λv p B=>YD<|YI (YE B)) λo0 o0 x=>x))
inductive RM(C:Cx)(c:String)(k:Jg)(ps:List PV)(σ:PH)(h₀:Ji)(s:Je)(v:Jf)(s':Je):Prop
 |mk (e t:Jg) (dx:Option Jg) (hv:v= .ref e) (new:s.heap.get? e=Option.none) (go:s'.heap.get? e=Ja {cls:= .ref k,dict:=dx,data:= .fields #[.ref t,.none,.none,.none,.bool Jd,.none]})
  (keep:∀b o,s.heap.get? b=Ja o->s'.heap.get? b=Ja o) (rest:Rest s s') (ff:FF C ⟨c,ps⟩ σ h₀ s'.heap dx):RM C c k ps σ h₀ s v s'
theorem RM.raise{m j:Je}(r:RM C c k ps σ1 s.heap m v j)(x:ExCls C.B k)(h:C.cls c=Ja k)(B:Sim C σ1 m.heap)(P:Step none1 σ s.heap σ1 m.heap)(f:Rest s m)(W:EnvR C env ρ σ s.heap)(a:AOK C n A l σ s.heap)(w:X ⟨c,ps⟩ ρ σ1):RP k (SX C n A l env σ s X) v j:=by
 obtain⟨e,t,d,rfl,new,g,keep,y,H⟩:=r;have V:Step none1 σ s.heap σ1 j.heap:=P.trans<|.more keep;exact⟨e,t,d,rfl,x.keeps λb o q=>keep b o<|B.base b o q,g,⟨c,ps⟩,ρ,σ1,⟨e,_,_,k,rfl,(dF B new).1,(dF B new).2,P.live e new,g,h,rfl,rfl,rfl,.inl rfl,H⟩,W.step V,B.more keep,V.own,f.trans y,a.step V,w⟩
def MkOK(C:Cx)(G:Gx)(n:Nat)(c:String)(k:Jg)(N:Nat):Prop:=∀ (A:Jj) (l:List Js) (σ T:PH) (s m:Je) (p:List PV) (v:List Jf) (E:Jf->Je->Prop),AOK C n A l σ s.heap->VRs C T m.heap p v->Sim C T m.heap->Step none1 σ s.heap T m.heap->p.length=N->v.length<=JL->
 Jh (Mo C) A (call (.ref k) v) (RM C c k (p.take (G.flds c).length) T s.heap m) E m
theorem lQ(g:GOK C G mg mb)(X:ExcOK C G mg mb)(h:C.calm){args:List E}(M:C.cls c=Ja k)(x:ExCls C.B k)(mk:MkOK C G n c k args.length){sc:Jk}{as:List Jl}{py p q:Pos}(B:sc.names.lookup (Qb c)=Ja .globalImplicit)(W:bG (Qb c)=Jc)(J:as.length<=20)(a:Evs C G n sc args as):
  StK C G n sc (.raise c args) (.Raise (Ja<|.Call (.Name (Qb c) py) as [] p) Jb q):=λ{env ρ A l σ s Q F} I w=>by
 refine ug (k:=k) (I.ak.calm h) ?_;rw[gf];refine YD<|im g I.ev I.m (I.sr.glob _ B) W (X.cls c k M) (eU (first:=[]) x.kp a.plain ?_);refine YF (jD a I.toAt w.2) (λj D T=> ?_) λo0 o0 x=>XP.stmt I.ev I.ak x;obtain⟨i,O,hv,m,t,f,o,w⟩:=T;have H:j.length<=JL:=by rw[hv.length,o,<-a.length];exact Qv J<|by decide
 exact⟨m.base,YF (mk _ _ _ _ _ _ _ _ _ I.ak hv m t o H) (λv R r=>r.raise x M m t f I.ev I.ak w) λo0 o0 x=>x⟩
theorem oP(g:GOK C G mg mb)(X:ExcOK C G mg mb)(a:C.calm){args:List E}(w:G.mks.contains c=Jc){sc:Jk}{as:List Jl}{py p q:Pos}(u:sc.names.lookup (Qb c)=Ja .globalImplicit)(K:bG (Qb c)=Jc)(z:as.length<=20)(H:Evs C G n sc args as):StK C G n sc (.raise c args) (.Raise (Ja (.Call (.Name (Qb c) py) as [] p)) Jb q):=by
 obtain⟨k,M⟩:=X.hasM c w;obtain⟨D,N,nm,B,bs,h,sn,sub,J,o,U,S,b,Y,F,O,f,d,W,i,T⟩:=(X.make c k M w).obj;refine lQ g X a M ⟨nm,B,N,bs,D,h,sn,sub,J,o,U,S,b,Y,F,O,_,d,T.hasType<|by decide+kernel⟩ ?_ u K z H;intro A l σ j s Z I v E x hv m P V r;refine wpAny_call_exc_subT (hrest:=r) PySem.F.excBase_ValueError (T.keeps m.base) (m.base _ _ d) (W.keeps m.base) i λR e hx=> ?_;obtain⟨t,L,y,Q⟩:=hx.there;exact⟨e,t,_,rfl,hx.new,L,hx.keeps,⟨rfl,rfl⟩,.no (by rw[X.flm c w];rfl) rfl⟩
end
end
section
open PySem.W PyProof.Rows
theorem uD(h:mIni sc [] b=Jc):b=[]:=by
 induction b using List.casesOn with
 |nil=>rfl
 |cons=>exact ft h
theorem rL(h:mIni sc (x::xs) b=Jc):
  X5 λo U J B r=>b= .Assign [.Attribute (.Name (Qb "self") o) (Qb x) U] (.Name (Qb x) J) B::r/\mIni sc xs r=Jc:=by
 induction b using List.casesOn with
 |nil=>exact ft h
 |cons y T=>
  obtain⟨Y,Q⟩:=and2 (show(kAsg (hAttr x<|hName (isLoc sc) "self") (hName (isLoc sc) x) y&&mIni sc xs T)=Jc from h);refine nY (P:=λy=>X5 λo U J B r=>y::T= .Assign [.Attribute (.Name (Qb "self") o) (Qb x) U] (.Name (Qb x) J) B::r/\mIni sc xs r=Jc) Y λt v s H O=> ?_;refine wA (P:=λt=>X5 λo U J B r=> .Assign [t] v s::T= .Assign [.Attribute (.Name (Qb "self") o) (Qb x) U] (.Name (Qb x) J) B::r/\mIni sc xs r=Jc) H λz p n o0 o0=> ?_;refine iU (P:=λz=>X5 λo U J B r=> .Assign [.Attribute z (Qb x) p] v s::T= .Assign [.Attribute (.Name (Qb "self") o) (Qb x) U] (.Name (Qb x) J) B::r/\mIni sc xs r=Jc) n λq o0 o0=> ?_;exact iU (P:=λv=>X5 λo U J B r=> .Assign [.Attribute (.Name (Qb "self") q) (Qb x) p] v s::T= .Assign [.Attribute (.Name (Qb "self") o) (Qb x) U] (.Name (Qb x) J) B::r/\mIni sc xs r=Jc) O λZ o0 o0=>⟨_,_,_,_,_,rfl,Q⟩
noncomputable def addF(m:Jq->Option Jf)(names:List String)(v:Jq->Option Jf):Jq->Option Jf:=names.foldl (λa x=>λy=>if y=Qb x then m (Qb x) else a y) v
theorem jE(m:Jq->Option Jf)(x:String)(xs:List String)(v:Jq->Option Jf):addF m (x::xs) v=addF m xs (λy=>if y=Qb x then m (Qb x) else v y):=rfl
theorem nR(m:Jq->Option Jf):∀ (names:List String) (v:Jq->Option Jf) (y:Jq),(y∈names.map Qb\/v y=m y)->addF m names v y=m y
 |[]=>λv y h=>by rcases h with h|h;cases h;exact h
 |x::s=>λv y h=>by
  rw[jE];refine nR m s _ y ?_;by_cases e:y=Qb x
  ·exact .inr<|by rw[Y8 e,e]
  ·refine h.imp (λh=> ?_) λh=>by rw[Y7 e];exact h
   rcases Qt.mp h with h|h
   ·exact absurd h e
   ·exact h
theorem rl(m:Jq->Option Jf):∀ (names:List String) (v:Jq->Option Jf) (y:Jq),(∀f∈names,y≠Qb f)->v y=Jb->addF m names v y=Jb
 |[]=>λv y o0 h=>h
 |x::s=>λv y q h=>by
  rw[jE];refine rl m s _ y (λf j=>q f<|.tail _ j) ?_;rw[Y7 (q x<|.head _)];exact h
section
variable{prog:Jn}{w:Jm}{A:Jj}{E:Jf->Je->Prop}
variable{nm q:Jq}{C N x:Jg}{bs bm:List Jf}{sn:List Jq}{sub:List Jf}{ab:Bool}{col:Option Bool}{dd:Option Jg}{k0 k1 k2 k3 k5:Option Jf}{newId:String}
structure Made(h₀:Ji)(e C:Jg)(vs:Array Jf)(mA:Jq->Option Jf)(h:Ji):Prop where
 keep:∀b o,b≠e->h₀.get? b=Ja o->h.get? b=Ja o
 inst:h.Inst e C mA
 obj:∃dx,h.get? e=Ja {cls:= .ref C,dict:=dx,data:= .fields vs,slots:= #[]}
 own:∀o dx,h.get? e=Ja o->o.dict=Ja dx->h₀.get? dx=Jb
theorem oM{env:Js}{m:Jq->Option Jf}{h₀ B:Ji}(j:env.scope.kind= .function)(hl:env.kindOf (Qb "self")=Ja .local)(R:env.locals=L)(V:m (Qb "self")=Ja (.ref e))
  (n:h₀.Ns L m)(G:L≠e)(T:J2 B bmE bm)(hC:B.get? C=Ja (JF nm q C N bs bm Jc sn sub ab col dd k0 k1 k2 k3 k5 newId))
  (P:Looks (Jt prog w) B (J0 (.ref C) "__setattr__") (Ja<|.builtin "object.__setattr__"))(c:∀b o,B.get? b=Ja o->b≠e/\h₀.get? b=Ja o){Q:Flow->Je->Prop}:
  ∀ (names:List String) (body:List Jo) (K:Jq->Option Jf) (ns:List Jq) (s:Je),mIni sc names body=Jc->Made h₀ e C vs K s.heap->Within K ns->ns.length+names.length<=100->
   (∀x∈names,env.kindOf (Qb x)=Ja .local/\(∃v,m (Qb x)=Ja v)/\((Qb x==("__debug__":Jq))=Jd)/\Looks (Jt prog w) B (J0 (.ref C)<|Qb x) Jb)->
   (∀W tk,Made h₀ e C vs (addF m names K) W->Q .next {s with heap:=W,toks:=tk})->Jh (Jt prog w) A (execs body env) Q E s
 |[]=>λbody K ns s D M a J hx k=>by
  rw[uD D];exact JM<|k s.heap s.toks M
 |x::xs=>λbody K ns s D M a J hx k=>by
  obtain⟨p1,p2,p3,p4,r,rfl,I⟩:=rL D;obtain⟨x1,⟨v,O⟩,x3,x4⟩:=hx x<|.head _;have u:=n.at' λo Z=>M.keep L o G Z;refine J5<|plainObj_wpAny_Assign_Attribute ?_ ?_
  ·refine J6 (YQ j x1 (R▸u) O ?_) x3;refine J6 (YQ j hl (R▸u) V ?_) (by decide+kernel);obtain⟨h,g,d,tk,os⟩:=s;have p:∀b o,B.get? b=Ja o->h.get? b=Ja o:=λb o Z=>M.keep b o (c b o Z).1 (c b o Z).2;refine sg (ns:=ns) (T.keeps p) (p _ _ hC) (x4.keeps p) (P.keeps p) M.inst (λW H S=> ?_) a (by rw[JW];exact zle (QO _ _)<|zb2 J rfl);refine oM (vs:=vs) j hl R V n G T hC P c xs r (λy=>if y=Qb x then Ja v else K y) (Qb x::ns) {heap:=W,gens:=g,drawn:=d,toks:=H,os:=os} I ?_ (Within.cons _ v a) (by simp only[KW] at J ⊢;exact zle (QT<|QL _ _ _) J) (λy hy=>hx y<|.tail _ hy) (λi t M'=> ?_)
   ·refine⟨λb o hb Z=>S.keep b o hb (λU l f F q=> ?_)<|M.keep b o hb Z,S.inst,?_,λo l Z ed=> ?_⟩
    ·subst q;rw[M.own U _ f F] at Z;cases Z
    ·obtain⟨d0,h0⟩:=M.obj;obtain⟨⟨c1,d1,aa,ac⟩,f,F,e3,e4,o0⟩:=S.obj _ h0;refine⟨d1,?_⟩;rw[f];simp only at F e3 e4;rw[F,e3,e4]
    ·obtain⟨o',Y,o0⟩:=M.inst
     rcases S.fresh o l Z ed with q|⟨U,q1,q2⟩
     ·induction z:h₀.get? l with
      |none=>rfl
      |some oz=>
       by_cases X:l=e
       ·subst X;rw[Y] at q;cases q
       ·rw[M.keep l oz X z] at q;cases q
     ·exact M.own U l q1 q2
   ·rw[jE,O] at k;exact k i t M'
  ·rfl
theorem lu{h:Ji}{d:Drawn}(T:J2 h bmE bm){m:Jq->Option Jf}{rest:List Jf}{D:Jg}{V:Jp}{Q:Fin->Je->Prop}
  (M:h.get? C=Ja (JF nm q C N bs bm y sn sub ab col dd k0 k1 k2 k3 k5 "ValueError.__new__"))(n:h.Ns N m)(hi:m "__init__"=Ja (.ref D))(I:h.get? D=Ja V)(f:V.cls= .type "function")
  (z:∀S e,Heap.MadeExcOf h S e (.ref C) rest->Jh (Jt prog w) A (call (.ref D) (.ref e::rest)) (λr s'=>r= .none/\Q (.done<|.ret (.ref e)) s') E ⟨S,g,d,t,s⟩)(hrest:rest.length<=JL):
  Jh (Jt prog w) A (Builtin.«type.__call__» ⟨.ref C::rest,[]⟩) Q E ⟨h,g,d,t,s⟩:=by
 have F:=PySem.F.excBase_ValueError
 repeat (first|with_reducible refine Jy M ?_|with_reducible refine wpAny_madeBy_exc M ?_|wp_step)
 refine codeAny_call_builtin_code (Code.quiet_builtin _ F.quiet) (wpAny_check_new_subT F T M ?_);refine codeAny_exc_new_subT F T M ?_ hrest;show Jh _ _ _ _ _ _;have kp:∀b o,h.get? b=Ja o->((h.push {cls:= .type "tuple",data:= .seq rest.toArray}).push {cls:= .ref C,data:= .fields #[.ref h.objs.size,.none,.none,.none,.bool Jd,.none]}).get? b=Ja o:=λb o e=>Qw _ (Qw _ e);have l:=kp _ _ M;have c:((h.push {cls:= .type "tuple",data:= .seq rest.toArray}).push
   {cls:= .ref C,data:= .fields #[.ref h.objs.size,.none,.none,.none,.bool Jd,.none]}).get? (h.objs.size+1)=Ja
   {cls:= .ref C,data:= .fields #[.ref h.objs.size,.none,.none,.none,.bool Jd,.none]}:=by heap_get
 have i:(Value.ref C::bm).contains (.ref C)=Jc:=by simp
 unfold isInstance
 repeat (first|with_reducible refine Jy c ?_|(with_reducible refine YU l ?_;rw[i])|wp_step)
 show Jh _ _ (J0 (.ref C) _) _ _ _;refine wpAny_typeLookup_tail l (n.keeps kp) (T.keeps kp) F.mroIs F.init.lookup ?_;rw[hi];refine YH<|YD ?_;unfold bindSpecial;refine YD<|wpAny_typeOf (T:="function") ⟨_,kp _ _ I,f⟩ ?_;rw[Y8 (by decide)];refine YE<|YD (YF (z _ (h.objs.size+1) ⟨kp,WK<|WD _,h.objs.size,c,WK<|QA _,?_⟩) (λr s' Z=> ?_) λo0 o0 x=>x)
 ·exact Qw _<|Heap.get?_push_at rfl rfl
 ·obtain⟨rfl,X⟩:=Z
  wp_walk
  exact X
theorem uc{h:Ji}{d:Drawn}(T:J2 h bmE bm){m:Jq->Option Jf}{rest:List Jf}{D:Jg}{V:Jp}{Q:Jf->Je->Prop}
  (M:h.get? C=Ja (JF nm q C N bs bm c sn sub ab col dd k0 k1 k2 k3 k5 "ValueError.__new__"))(n:h.Ns N m)(hi:m "__init__"=Ja (.ref D))(I:h.get? D=Ja V)(f:V.cls= .type "function")
  (z:∀S e,Heap.MadeExcOf h S e (.ref C) rest->
   Jh (Jt prog w) (A.under (.builtin "type.__call__" ⟨.ref C::rest,[]⟩)) (call (.ref D) (.ref e::rest)) (λr s'=>r= .none/\Q (.ref e) s') E ⟨S,g,d,t,o⟩)(hrest:rest.length<=JL):
  Jh (Jt prog w) A (call (.ref C) rest) Q E ⟨h,g,d,t,o⟩:=by
 have B:=tc_lookup;have R:=tc_bind<|.ref C;have Y:(⟨h,g,d,t,o⟩:Je).TypeIs (.ref C) "type":=⟨_,M,rfl⟩
 refine wpAny_call<|codeAny_of_tree ?_;show Jh _ _ (callAny (.ref C) _) _ _ _
 repeat (any_goals (first|assumption|with_reducible refine Jy M ?_|wp_step))
 refine⟨rfl,?_⟩;refine codeAny_call_builtin_at (Code.quiet_builtin _<|by decide+kernel) entry_typeCall<|wpAny_check_type_call_sub M (lu T M n hi I f (λS e L=> ?_) hrest);exact z S e L
end
section
theorem lU{h S:Ji}(k:∀b o,h.get? b=Ja o->S.get? b=Ja o)(n:S.get? e=Jb):h.get? e=Jb:=by
 induction q:h.get? e with
 |none=>rfl
 |some o=>exact ns<|n.symm.trans (k e o q)
theorem zt{C:Cx}{H D Y:Ji}{fl:List String}{ps:List PV}{m:Jq->Option Jf}(j:fl=C.flds c)(U:fl≠ [])(M:ps.length=fl.length)(k:(g=Jb/\∀n,m n=Jb)\/∃d,g=Ja d/\d≠e/\Y.Ns1 d m)
  (L:∀ (i:Nat) f v,fl[i]? =Ja f->vs[i]? =Ja v->m (Qb f)=Ja v)(hv:VRs C σ1 D ps vs)(kp:∀p v,VR C σ1 D p v->VR C σ1 Y p v)(T:∀x,(∀f∈fl,x≠Qb f)->m x=Jb)(r:∀d,g=Ja d->A3 (C.B.get? d=Jb) (σ1 d=Jb) (H.get? d=Jb)):FF C ⟨c,ps⟩ σ1 H Y g:=by
 have K:ps≠ []:=λq=>U<|List.eq_nil_of_length_eq_zero (M.symm.trans<|congrArg YC q)
 rcases k with⟨o0,o⟩|⟨d,rfl,o0,P,l,I,t,X,s,o0,S⟩
 ·exfalso;obtain⟨z,zs,rfl⟩:=WN U;obtain⟨p,Z,rfl⟩:=WN K;obtain⟨v,h,o0⟩:=hv.get 0 p rfl;exact ns<|(o _).symm.trans (L 0 z v rfl h)
 ·obtain⟨B,Q,G⟩:=r d rfl;refine .at_ K d P rfl B Q G t ⟨l,I,X,s,λi f p D Y=> ?_,λx q=>(S x).trans (T x λf R=>q f<|j▸R)⟩;obtain⟨v,h,a⟩:=hv.get i p Y;exact⟨v,(S _).trans (L i f v (j▸D) h),kp _ _ a⟩
theorem zu(h:a+n+2<L):a+1<L:=QX (Kh (QO a n)<|by decide) h
theorem v5(q:n<=50):([]:List Jq).length+n<=100:=(Wx n).symm▸Qv q (by decide)
theorem IniAt.ex{B:Ji}{K:Frag}{k:Jg}{names:List String}(x:IniAt B K k names):ExCls B k:=by
 obtain⟨bm,N,nm,q,bs,sn,sub,ab,col,dd,k0,k1,k2,k3,k5,m,f,o,d,b,h,a,i,T⟩:=x;exact⟨nm,q,N,bs,bm,Jc,sn,sub,ab,col,dd,k0,k1,k2,k3,k5,_,h,T.hasType<|by decide+kernel⟩
inductive IM(h₁:Ji)(e k:Jg)(names:List String)(vs:List Jf)(s₁ s₂:Je):Prop
 |mk (t:Jg) (dx:Option Jg) (mA:Jq->Option Jf) (go:s₂.heap.get? e=Ja {cls:= .ref k,dict:=dx,data:= .fields #[.ref t,.none,.none,.none,.bool Jd,.none]}) (keep:∀b o,b≠e->h₁.get? b=Ja o->s₂.heap.get? b=Ja o)
  (hdi:(dx=Option.none/\∀n,mA n=Option.none)\/∃d,dx=Ja d/\d≠e/\s₂.heap.Ns1 d mA) (own:∀d,dx=Ja d->h₁.get? d=Option.none) (hm:∀ (i:Nat) f v,names[i]? =Ja f->vs[i]? =Ja v->mA (Qb f)=Ja v) (ho:∀x,(∀f∈names,x≠Qb f)->mA x=Option.none) (rest:Rest s₁ s₂):IM h₁ e k names vs s₁ s₂
theorem IM.rm{C:Cx}{W:Ji}{s m u l:Je}{names:List String}{ps:List PV}(i:IM W e k names vs u l)(R:Rest m u)(kp:∀b o,m.heap.get? b=Ja o->W.get? b=Ja o)(new:m.heap.get? e=Jb)(B:Sim C σ1 m.heap)(P:Step none1 σ s.heap σ1 m.heap)(hv:VRs C σ1 m.heap ps vs)(f:names=C.flds c)(h:names≠ [])(T:ps.length=names.length):RM C c k (ps.take names.length) σ1 s.heap m (.ref e) l:=by
 obtain⟨t,g,v,I,keep,G,own,L,a,y⟩:=i;have p:∀b o,m.heap.get? b=Ja o->l.heap.get? b=Ja o:=λb o q=>keep b o (λz=>ns<|new.symm.trans (z▸q))<|kp b o q;rw[List.take_of_length_le (QT T)];refine⟨e,t,g,rfl,new,I,p,R.trans y,zt f h T G L hv (λo0 o0 r=>r.step<|Step.more (S:=none1) p) a λd q=> ?_⟩;have dH:=lU kp<|own d q;exact⟨(dF B dH).1,(dF B dH).2,P.live _ dH⟩
theorem uf{C:Cx}{A:Jj}{nm q:Jq}{bs bm:List Jf}{sn:List Jq}{sub:List Jf}{oI:Jp}{S:Jr}{names:List String}{vs:List Jf}{s:Je}{E:Jf->Je->Prop}
  (F:∀b o,C.B.get? b=Ja o->b≠e/\s.heap.get? b=Ja o)(J:s.heap.get? e=Ja {cls:= .ref k,data:= .fields #[.ref t,.none,.none,.none,.bool Jd,.none]})(P:A.depth<J1)(y:C.B.NoLimit)(ad:vs.length=names.length)(j:Frag.In C.K C.B)(W:∀f∈names,findIn C.K (.ref k) (Qb f)=Ja Jb)
  (hC:C.B.get? k=Ja (JF nm q k N bs bm Jc sn sub ab col dd k0 k1 k2 k3 k5 newId)) (T:J2 C.B bmE bm) (ae:C.B.get? fI=Ja oI) (ai:oI.data= .func S) (aj:C.B.CodeRec S.code S.qualname) (U:S.body= .stmts body) (Z:S.closure=[]) (l:YY S ⟨.ref e::vs,[]⟩=pure ((("self"::names).map Qb).zip (.ref e::vs)))
  (h:∀x∈"self"::names,S.scope.names.lookup (Qb x)=Ja .local/\(Qb x==("__debug__":Jq))=Jd) (ac:("self"::names).Nodup) (ah:S.scope.isCoroutine=Jd) (Q:S.scope.isGenerator=Jd) (O:S.scope.kind= .function)
  (c:mIni S.scope names body=Jc) (V:findIn C.K (.ref k) "__setattr__"=Ja (Ja<|.builtin "object.__setattr__")) (u:names.length<=50):
  Jh (Mo C) A (call (.ref fI) (.ref e::vs)) (λr s'=>r= .none/\IM s.heap e k names vs s s') E s:=by
 have p:∀b o,C.B.get? b=Ja o->s.heap.get? b=Ja o:=λb o q=>(F b o q).2;refine wpAny_call<|codeAny_call_cells P (p _ _ ae) ai (y.keeps p) (aj.keeps p) U l Z (λx am=> ?_) (λm X=> ?_) ah Q O
 ·have I:x.1∈("self"::names).map Qb:=(Kx (show(x.1,x.2)∈_ from am)).1;obtain⟨z,R,ez⟩:=Ql.mp I;rw[<-ez];exact .inl (h z R).1
 generalize L:callEnvC S s.heap.objs.size fI=n at X ⊢;have Y:n.locals=s.heap.objs.size:=by rw[<-L];rfl
 have g:∀x,n.kindOf x=S.scope.names.lookup x:=λx=>by rw[<-L];rfl
 have aa:n.scope.kind= .function:=by rw[<-L];exact O
 have kp:∀b o,s.heap.get? b=Ja o->m.heap.get? b=Ja o:=X.toInCall.keep;have a:∀i z v,("self"::names)[i]? =Ja z->(Value.ref e::vs)[i]? =Ja v->bindL n.kindOf ((("self"::names).map Qb).zip (Value.ref e::vs)) (λo0=>Jb) (Qb z)=Ja v:=λi z v D K=>
  lc _ _ _ i _ v (cU ac) (by rw[Qu,D];rfl) K (by rw[g];exact(h z<|Qz D).1)
 have ak:n.locals≠e:=by rw[Y];exact KQ<|QJ J
 refine oM (sc:=S.scope) (vs:= #[.ref t,.none,.none,.none,.bool Jd,.none]) (h₀:=m.heap) (B:=C.B) (C:=k) (e:=e) aa (by rw[g];exact(h _<|.head _).1) rfl (a 0 "self" (.ref e) rfl rfl) X.toInCall.ns ak T hC (looks_findIn j V) (λb o q=>⟨(F b o q).1,kp b o (F b o q).2⟩)
  names body (λo0=>Jb) [] m c ⟨λb o o0 eo=>eo,⟨_,kp _ _ J,rfl,(λcc q=>by cases q),.inl ⟨rfl,λo0=>rfl⟩⟩,⟨Jb,kp _ _ J⟩,λo dx eo ed=>by obtain rfl:=sj<|(kp _ _ J).symm.trans eo;exact ns ed⟩ Within.nil (v5 u) (λz R=> ?_) (λK ao M=> ?_)
 ·obtain⟨i,G,rfl⟩:=KT R;have af:i<vs.length:=ad.symm▸G;refine⟨by rw[g];exact(h _<|.tail _ R).1,⟨vs[i],a (i+1) _ _ (by rw[List.getElem?_cons_succ];exact Qg G)<|by rw[List.getElem?_cons_succ];exact Qg af⟩,(h _<|.tail _ R).2,looks_findIn j<|W _ R⟩
 ·obtain⟨dx,go⟩:=M.obj;obtain⟨an,ap,H⟩:=X.toInCall.same;obtain⟨oi,gi,o0,o0,al⟩:=M.inst;obtain rfl:=sj<|go.symm.trans gi;exact⟨rfl,t,dx,_,go,λb o hb q=>M.keep b o hb<|kp b o q,al,λd q=>lU kp<|M.own _ d go q,λi f v D K=>(nR _ _ _ _<|.inl (Ql.mpr ⟨f,Qz D,rfl⟩)).trans (a (i+1) f v D K),λx q=>rl _ _ _ _ q rfl,⟨by rw[H],by rw[H]⟩⟩
theorem rS{C:Cx}{G:Gx}{F S:Jq->Option Jf}(g:GOK C G F S)(X:ExcOK C G F S)(z:C.calm){args:List E}(w3:G.inis.contains c=Jc)(U:args.length=(G.flds c).length){sc:Jk}{as:List Jl}{py p q:Pos}(h5:sc.names.lookup (Qb c)=Ja .globalImplicit)(h6:bG (Qb c)=Jc)(h3:as.length<=20)(ha:Evs C G n sc args as):StK C G n sc (.raise c args) (.Raise (Ja (.Call (.Name (Qb c) py) as [] p)) Jb q):=by
 obtain⟨k,hk,I⟩:=X.ini c w3;refine lQ g X z hk I.ex ?_ h5 h6 h3 ha;obtain⟨bm,N,nm,q',bs,sn,sub,ab,col,dd,k0,k1,k2,k3,k5,mN,fI,oI,fd,y,K,hN,hi,T,D,Z,J,W,B,u,i,L,O,M,Q,d,a,V,H⟩:=I;intro A l σ aa s j ps vs E ak hv m P R hl;have v:vs.length=(G.flds c).length:=(hv.length.trans R).trans U;refine uc (T.keeps m.base) (m.base _ _ K) (hN.keeps m.base) hi (m.base _ _ D) Z (λh' e hx=> ?_) hl;obtain⟨t,e1,o0,o0⟩:=hx.there;refine YF (uf (e:=e) (λb o Y=>⟨λq=>ns<|(dF m hx.new).1.symm.trans (q▸Y),hx.keeps b o<|m.base b o Y⟩) e1 (zu ak.depth) g.nolimit v X.kin (λf hf=>X.fld c k _ hk hf) K T D J W B u (i _ (Ub (· +1) v)) L O M Q d a V H.2) (λr s2 h=>⟨h.1,h.2.rm ⟨rfl,rfl⟩ hx.keeps hx.new m P hv (X.fl c) H.1<|R.trans U⟩) λo0 o0 x=>x
theorem pq{C:Cx}{U m:Jq->Option Jf}(g:GOK C G U m)(X:ExcOK C G U m)(a:C.calm){args:List E}{sc:Jk}{as:List Jl}{py p q:Pos}(B:sc.names.lookup (Qb c)=Ja .globalImplicit)(W:bG (Qb c)=Jc)(J:as.length<=20)(T:Evs C G n sc args as):StK C G n sc (.raise c args) (.Raise (Ja (.Call (.Name (Qb c) py) as [] p)) Jb q):=λI w=>by
 rcases w.1.2.2 with h|h
 ·exact oP g X a h B W J T I w
 ·exact rS g X a h.1 h.2 B W J T I w
end
end
section
open PySem.W PyProof.Rows
section
variable{C:Cx}{G:Gx}{mg mb:Jq->Option Jf}{n:Nat}{A:Jj}{Er:Jf->Je->Prop}{env:Js}{ρ:Rho}{σ:PH}{s:Je}{l:List Js}
theorem rT{g W:Jp}{Q:Unit->Je->Prop}(O:s.heap.get? a=Ja g)(v:g.data= .fields vs)(N:vs[1]? =Ja (.ref T))(Y:s.heap.get? T=Ja W)(U:W.data= .fields t)
  (J:t[3]? =Ja .none)(h:∀S,(∀b o,s.heap.get? b=Ja o->S.get? b=Ja o)->Q () {s with heap:=S}):Jh (Mo C) A (JU (.ref a) Jb) Q Er s:=by
 have z:=(KB.mp J).1;refine wpAny_setFlight_none O v N Y U z (h _ λb o e=> ?_);have same:t.setIfInBounds 3 .none=t:=by
  apply Array.ext
  ·simp
  ·intro i N p;rw[Array.getElem_setIfInBounds]
   split
   ·rename_i q;subst q;exact((KB.mp J).2).symm
   ·rfl
 have P:W.mapFields (·.setIfInBounds 3 .none)=W:=by
  obtain⟨c,d,X,B⟩:=W;simp only at U;subst U;simp only[Obj.mapFields,same]
 by_cases q:b=T
 ·subst q;obtain rfl:=sj<|Y.symm.trans e;rw[Kg _ Y (Obj.isFreed_of_fields<|Obj.data_mapFields U _),P]
 ·rw[KC _ _ (λe=>q e.symm)];exact e
theorem EnvR.stepF{S:Jg->Prop}{h u:Ji}(x:EnvR C env ρ σ h)(st:Step S σ h σ' u)(R:∀b o,S b->h.get? b=Ja o->∃vs,o.data= .fields vs):EnvR C env ρ σ' u where
 fn:=x.fn
 glob:=x.glob
 blt:=x.blt
 ns:=by
  obtain⟨m,F,hv⟩:=x.ns;refine⟨m,Ns.like F λo e=> ?_,λy p T w=>by obtain⟨v,a,b⟩:=hv y p T w;exact⟨v,a,b.step st⟩⟩;obtain⟨o0,i,g,k⟩:=st.keep _ o e x.newL;obtain⟨P,U,H,w,W,o0⟩:=F;obtain rfl:=sj<|e.symm.trans w;exact⟨i,g,k λf=>by obtain⟨vs,q⟩:=R _ o f e;rw[W] at q;cases q⟩
 cell:=λy p T w=>by
  obtain⟨c,v,a,b,d⟩:=x.cell y p T w;refine⟨c,v,a,IsCell.like b λo e=> ?_,d.step st⟩;obtain⟨o0,i,g,k⟩:=st.keep _ o e (x.newC _ c a).1;obtain⟨P,w,W⟩:=b;obtain rfl:=sj<|e.symm.trans w;exact⟨i,g,k λf=>by obtain⟨vs,q⟩:=R _ o f e;rw[W] at q;cases q⟩
 newL:=by
  obtain⟨m,⟨o,U,H,e,o0⟩,o0⟩:=x.ns;exact(st.keep _ o e x.newL).1
 newC:=λy c e=>by
  obtain⟨a,v,o,b,d⟩:=x.newC y c e;obtain⟨q,i,g,k⟩:=st.keep _ o b a;exact⟨q,v,i,g,(k λf=>by obtain⟨vs,q⟩:=R _ o f b;rw[d] at q;cases q).2.2.1.trans d⟩
 baseL:=x.baseL
 baseC:=x.baseC
 apart:=x.apart
 hasC:=x.hasC
theorem AOK.stepF{S:Jg->Prop}{h W:Ji}(x:AOK C n A l σ h)(st:Step S σ h σ' W)(R:∀b o,S b->h.get? b=Ja o->∃vs,o.data= .fields vs):AOK C n A l σ' W:=
 ⟨x.depth,x.units,x.stack,(x.frs.step st λd e L w f=>by
  obtain⟨o0,r,i,U,m,T,o0,o0,u,V⟩:=x.frs d e;obtain rfl:=sj (w.symm.trans T);obtain⟨vs,q⟩:=R L i f u;rw[V] at q;cases q),x.calm⟩
theorem Bt{fl:Fl}(x:FR C.un σ h fl f):FR C σ h fl f:=by
 induction fl with
 |next=>exact x
 |ret p=>obtain⟨v,e,hv⟩:=x;exact⟨v,e,by rw[iN] at hv;exact hv⟩
end
end
section
open PySem.W PyProof.Rows
noncomputable def came(e:Jf)(env:Js):Sem Unit:=do
 if(<-field e 1)== .none then unsupported "frame.own-activation:exception-without-traceback"
 JU e env.frame
section
variable{C:Cx}{G:Gx}{mg mb:Jq->Option Jf}{n:Nat}{A:Jj}{env:Js}{ρ:Rho}{σ:PH}{s:Je}{l:List Js}
theorem SX.pass(tf:TopF env l)(x:SX C n A l env σ s X e s'):notedBy (Mo C) A env (cameBackBy (Mo C) A env (SX C n A l env σ s X)) e s':=by
 obtain⟨D,j,m,fl,v,c,P,r,k,w⟩:=x;obtain⟨M,rfl,h⟩:=id tf;have key:=jF (fo:=env.frame) (K:=came e env) (Er:=λo0 o0=>False) (Q:=λo0 W=>SX C n A (env::M) env σ s X e W) k.stack k.frs h c fl (λL q=>by obtain rfl:=sj<|h.symm.trans q;rfl) P (λa t i U T y N p H R=> ?_) λS I f o O E=> ?_
 ·exact YF key (λo0 b p=>YF p (λo0 o0 z=>z) λo0 o0 z=>z.elim) λo0 o0 z=>z.elim
 ·subst y;unfold came;refine YD<|YG N p H ?_;rw[Y7 (show ¬ ((Value.ref T==Value.none)=Jc) from QF)];exact R
 ·obtain⟨F,stF,J⟩:=O;exact⟨D,j,m,f,v.stepF stF J,I,o,r,k.stepF stF J,w⟩
structure WhAt(C:Cx)(env:Js)(n:Nat)(A:Jj)(l:List Js)(go:Rho->PH->Prop)(σ:PH)(s:Je)(ρ':Rho)(σ':PH)(s':Je):Prop where
 m:Sim C σ' s'.heap
 ev:EnvR C env ρ' σ' s'.heap
 step:Step (ownE env) σ s.heap σ' s'.heap
 rest:Rest s s'
 ak:AOK C n A l σ' s'.heap
 go:go ρ' σ'
theorem vt(ht:TsOK C G n sc t u)(hb:StsK C G n sc b y):StK C G n sc (.while_ t b) (.While u y [] pos):=λ{env ρ A l σ s Q X} R w=>by
 obtain⟨o0,k,w⟩:=w;refine wpAny_While<|codeAny_whileLoop (λB s'=>∃O T,WhAt C env n A l (whGo (λρ σ K=>we G (aO C n) t ρ σ (λv m=>c3 (λc=>K c m) v) λx m=>X x ρ m) (λρ σ K=>wss G (aO C n) (aO C.un n) b ρ σ K X) Q B) σ s O T s') ?_ k ⟨ρ,σ,R.m,R.ev,.refl _ _ _,.refl s,R.ak,w⟩;intro B s' hI;obtain⟨O,T,I⟩:=hI
 induction B using Nat.casesOn with
 |zero=>exact I.go.elim
 |succ j=>
  have J:∀ {m:PH} {W:Je} {e:Jf} {g:Je},Step (ownE env) σ s.heap m W.heap->Rest s W->SX C n A l env m W X e g->notedBy (Mo C) A env (cameBackBy (Mo C) A env<|SX C n A l env σ s X) e g:=λst r z=>SX.pass R.tf (SX.from st r z);refine YF (ht (K:=λc m=>if c then wss G (aO C n) (aO C.un n) b O m (onFl (λZ L=>whGo (λρ σ K=>we G (aO C n) t ρ σ (λv m=>c3 (λc=>K c m) v) λx m=>X x ρ m) (λρ σ K=>wss G (aO C n) (aO C.un n) b ρ σ K X) Q j Z L) Q) X else Q .next O m) (X:=λx m=>X x O m) ⟨R.sr,I.ev,I.m,I.ak⟩ I.go) (λc W h=> ?_) λe g z=>J I.step I.rest<|XP.stmt I.ev I.ak z
  ·obtain⟨m,U,P,r1,N⟩:=h;have d:=I.ev.step P;have a:=I.ak.step P;have o:=I.step.trans P.own;have M:=I.rest.trans r1
   induction c with
   |false=>exact JM ⟨.next,O,m,rfl,d,U,o,M,a,N⟩
   |true=>
    refine YF (hb ⟨⟨R.sr,d,U,a⟩,R.tf⟩ N) (λf s3 hf=> ?_) λe s3 z=>J o M z;obtain⟨fl,i,D,V,Y,m3,H,r3,F,q⟩:=hf
    induction fl with
    |next=>
     simp only[FR] at V;subst V;exact⟨j,QI j,i,D,m3,Y,o.trans H,M.trans r3,F,q⟩
    |ret p=>
     obtain⟨v,rfl,hv⟩:=V;exact⟨.ret p,i,D,⟨v,rfl,hv⟩,Y,m3,o.trans H,M.trans r3,F,q⟩
end
end
section
open PySem.W PyProof.Rows
structure Caught(C:Cx)(G:Gx)(n:Nat)(A:Jj)(l:List Js)(env:Js)(σ:PH)(s:Je)(px:PX)(ρ1:Rho)(σ1:PH)(s1:Je)(a:Jg)(oe:Jp)(vs:Array Jf)(T:Jg)(oT:Jp)(ts:Array Jf)(k:Jg):Prop where
 at_:s1.heap.get? a=Ja oe
 dat:oe.data= .fields vs
 tb:vs[1]? =Ja (.ref T)
 hT:s1.heap.get? T=Ja oT
 dT:oT.data= .fields ts
 nT:ts[3]? =Ja Value.none
 cls:C.cls px.c=Ja k
 ocl:oe.cls= .ref k
 odi:FF C px σ1 s.heap s1.heap oe.dict
 m:Sim C σ1 s1.heap
 ev:EnvR C env ρ1 σ1 s1.heap
 ak:AOK C n A l σ1 s1.heap
 st:Step (ownE env) σ s.heap σ1 s1.heap
 rest:Rest s s1
section
variable{C:Cx}{G:Gx}{mg mb:Jq->Option Jf}{n:Nat}{A:Jj}{l:List Js}{env:Js}{σ:PH}{s:Je}{px:PX}{ρ1:Rho}{σ1:PH}{s1:Je}{a:Jg}{oe:Jp}{vs:Array Jf}{T:Jg}{oT:Jp}{ts:Array Jf}{k:Jg}
theorem FF.inst{h₀ h:Ji}{oe:Jp}(f:FF C x σ h₀ h oe.dict)(g:h.get? a=Ja oe)(v:oe.data= .fields vs)(c:oe.cls= .ref k):∃D,InstAt h a oe k D:=by
 induction f with
 |no _ e=>exact⟨Jb,g,c,by simp[notCls,v],by rw[e];trivial⟩
 |at_ _ d o e _ _ _ t _=>exact⟨Ja o,g,c,by simp[notCls,v],by rw[e];exact t⟩
theorem wc(g:GOK C G mg mb)(X:ExcOK C G mg mb){E:List Jo}(U:StsK C.un G.un n sc h (b::E))(r:ScR sc env)(tf:TopF env l)
  (v:Caught C G n A l env σ s px ρ1 σ1 s1 a oe vs T oT ts k)(B:G.cs.contains c=Jc)(Y:glb sc c t=Jc)
  (w:G.sub px.c c=Jc->wss G.un (aO C.un n) (aO C.un n) h ρ1 σ1 Q λo0 o0 o0=>False)
  (wn:G.sub px.c c=Jd->Jh (Mo C) A (handleBy (.ref a) env rest) (SP C n A l env σ s Q) (SX C n A l env σ s H) s1):
  Jh (Mo C) A (handleBy (.ref a) env (.ExceptHandler (Ja t) Jb (b::E) p::rest)) (SP C n A l env σ s Q) (SX C n A l env σ s H) s1:=by
 obtain⟨L,rfl,O,W⟩:=j1 Y;obtain⟨o,I⟩:=v.odi.inst v.at_ v.dat v.ocl;obtain⟨N,d⟩:=X.has c B;refine wpAny_handleBy_cons (codeAny_handlers_test<|im g v.ev v.m (r.glob _ O) W (X.cls c N d) ((exm_one (M:=Mo C) (X.kin.keeps v.m.base) I.type<|X.sub _ _ _ _ v.cls d).here ?_))<|by intro q;cases q
 induction u:G.sub px.c c with
 |false=>exact wn u
 |true=>
  refine codeAny_handlers_suite (rT (C:=C) v.at_ v.dat v.tb v.hT v.dT v.nT λY kp=> ?_);have sk:Step none1 σ1 s1.heap σ1 Y:= .more kp;refine YF (U (s:={s1 with heap:=Y}) (A:=A.mark<|Ja (.ref a)) ⟨⟨r,(v.ev.step sk).un,(v.m.more kp).un,(v.ak.step sk).un⟩,tf⟩<|w u) (λf x j=> ?_) λo0 o0 z=>SX.none z;obtain⟨Z,i,m,J,e,y,V,D,P,q⟩:=j;exact⟨Z,i,m,Bt J,e.re,y.re,(v.st.trans sk.own).trans V,v.rest.trans D,P.re v.ak,q⟩
theorem vE{E:List J4}(hb:StsK C G n sc b y)(I:AtS C n sc env g A l σ s)
  (w:wss G (aO C n) (aO C.un n) b g σ Q W)
  (d:∀px ρ1 σ1 s1 a oe vs T oT ts k,Caught C G n A l env σ s px ρ1 σ1 s1 a oe vs T oT ts k->W px ρ1 σ1->Jh (Mo C) A (handleBy (.ref a) env (i::E)) (SP C n A l env σ s Q) (SX C n A l env σ s X) s1):
  Jh (Mo C) A (exec (.Try y (i::E) [] [] pos) env) (SP C n A l env σ s Q) (SX C n A l env σ s X) s:=by
 refine wpAny_Try_except ?_;refine YF (hb I w) (λf s1 H=> ?_) λe s1 hx=> ?_
 ·obtain⟨fl,ρ1,σ1,L,m,c,t,r,B,q⟩:=H
  induction fl with
  |next=>
   simp only[FR] at L;subst L;exact JM ⟨.next,ρ1,σ1,rfl,m,c,t,r,B,q⟩
  |ret v=>
   obtain⟨M,rfl,hv⟩:=L;exact⟨.ret v,ρ1,σ1,⟨M,rfl,hv⟩,m,c,t,r,B,q⟩
 ·obtain⟨px,ρ1,σ1,fl,m,c,t,r,B,w⟩:=hx;obtain⟨l',rfl,h⟩:=id I.tf;refine jF (K:=JU e Jb) B.stack B.frs h c fl (λL' q=>by obtain rfl:=sj<|h.symm.trans q;rfl) t (λo0 o0 o0 o0 o0 o0 o0 o0 o0 z=>z) λR m2 Z V O P=> ?_;obtain⟨F,stF,J⟩:=O;obtain⟨a,oe,vs,T,oT,ts,rfl,p,j,u,e4,e5,e6,N⟩:=P;obtain⟨a',o,aa,k,ea,q2,q3,q4,q5,D,q7,U,q9,x,Y⟩:=Z;cases ea;obtain rfl:=sj<|p.symm.trans q5;rw[j] at U;cases U;exact d px ρ1 σ1 {s1 with heap:=R} a oe vs T oT ts k ⟨p,j,u,e5,e6,N,D,q7,Y,m2,m.stepF stF J,B.stepF stF J,V,r⟩ w
end
section
variable{C:Cx}{G:Gx}{mg mb:Jq->Option Jf}{n:Nat}
theorem t0(g:GOK C G mg mb)(X:ExcOK C G mg mb)(Y:glb sc c t=Jc)(R:StsK C G n sc b y)(f:StsK C.un G.un n sc h (U::r)):StK C G n sc (.try1 b c h) (.Try y [.ExceptHandler (Ja t) Jb (U::r) p] [] [] q):=λ{env L A l σ s Q H} I w=>by
 refine vE R I w.2 λpx ρ1 σ1 s1 a oe vs T oT ts k v m=> ?_;refine wc g X f I.sr I.tf v w.1.2.2 Y (λE=>by rw[Y8 E] at m;exact m) λE=> ?_;rw[Y7 (by rw[E];exact QF)] at m;exact m.elim
theorem todoE(g:GOK C G mg mb)(X:ExcOK C G mg mb):Todo C G n:=⟨ss X,pu g X⟩
theorem tS(g:GOK C G mg mb)(X:ExcOK C G mg mb):Todo2 C G n:=⟨vt,λo0 h=>pq g X h,λo0 o0=>t0 g X⟩
end
end
section
open PySem.W PyProof.Rows
theorem vf{P:Jo->Prop}(h:mAsg sc f e x=Jc)(k:∀I r g v,isLoc sc (Qb "self")=Jc->bG (Qb "self")=Jc->kz v=Jc->mE sc e v=Jc->P (.Assign [.Attribute (.Name (Qb "self") I) (Qb f) r] v g)):P x:=
 nY h λt v o J w=>wA (P:=λt=>P<|.Assign [t] v o) J λz p B o0 o0=>iU (P:=λz=>P<|.Assign [.Attribute z (Qb f) p] v o) B λq W S=>k q p o v W S (and2 w).1 (and2 w).2
structure Half(h:Ji)(x dx k:Jg)(mA:Jq->Option Jf):Prop where
 obj:∃o,A4 (h.get? x=Ja o) (o.cls= .ref k) (o.dict=Ja dx) (∀c,o.data≠ .cls c)
 ne:dx≠x
 ns:h.Ns1 dx mA
section
variable{C:Cx}{G:Gx}{mg mb:Jq->Option Jf}{n:Nat}{x dx k:Jg}{mA:Jq->Option Jf}{h h':Ji}{σ σ':PH}
theorem Half.inst(a:Half h x dx k mA):h.Inst x k mA:=by obtain⟨o,T,e,X,u⟩:=a.obj;exact⟨o,T,e,u,.inr ⟨dx,X,a.ne,a.ns⟩⟩
theorem Half.step(a:Half h x dx k mA)(st:Step none1 σ h σ' h')(i:σ x=Jb)(nd:σ dx=Jb):Half h' x dx k mA/\σ' x=Jb/\σ' dx=Jb:=by
 obtain⟨o,q,Z,Q,F⟩:=a.obj;obtain⟨s,R,e,N⟩:=st.keep x _ q i;obtain⟨I,K,P,o0⟩:=N λf=>f.elim;obtain⟨v,U,p,T,w,X⟩:=a.ns;obtain⟨V,d,u,l⟩:=st.keep dx _ T nd;exact⟨⟨⟨R,e,I.trans Z,K.trans Q,λc z=>F c<|P.symm.trans z⟩,a.ne,d,U,p,u,(l λf=>f.elim).2.2.1.trans w,X⟩,s,V⟩
theorem Half.noTup(a:Half h x dx k mA):∀vs n,h.get? dx≠Ja (tupO vs n):=λvs n q=>by
 obtain⟨o,s,p,T,e,o0⟩:=a.ns;obtain rfl:=sj<|T.symm.trans q;cases e
inductive NewAt(B:Ji)(k fI:Jg)(fl:List String):Prop
 |mk (nm q:Jq) (N:Jg) (bs:List Jf) (sn:List Jq) (sub:List Jf) (col:Option Bool) (dd:Option Jg) (k0 k1 k2 k3 k5:Option Jf) (mN:Jq->Option Jf) (hC:B.get? k=Ja (JF nm q k N bs [.type "object"] Jc sn sub Jd col dd k0 k1 k2 k3 k5 "object.__new__")) (hN:B.Ns N mN)
  (hi:mN "__init__"=Ja (.ref fI)) (hs:mN "__setattr__"=Option.none) (hf:∀f∈fl,mN (Qb f)=Option.none/\J0 (.type "object") (Qb f)=pure Option.none):NewAt B k fI fl
theorem NewAt.keeps{B e:Ji}{fl:List String}(N:NewAt B k f fl)(kp:∀b o,B.get? b=Ja o->e.get? b=Ja o):NewAt e k f fl:=by
 obtain⟨nm,q,m,bs,sn,sub,c,d,S,P,U,F,O,Y,M,a,i,s,w⟩:=N;exact⟨nm,q,m,bs,sn,sub,c,d,S,P,U,F,O,Y,kp _ _ M,a.keeps kp,i,s,w⟩
theorem NewAt.kp{fl:List String}(N:NewAt C.B k f fl):Kp C (.ref k):=by
 obtain⟨nm,q,a,bs,sn,sub,c,d,S,P,U,F,O,m,M,o0⟩:=N;exact⟨.machine,.inr<|.inl rfl,λA Q E s kp q=>wpAny_keeperOf_exc (kp _ _ M) q⟩
structure Ini(C:Cx)(n:Nat)(A:Jj)(l:List Js)(env:Js)(ρ:Rho)(x dx k:Jg)(σ₀:PH)(s₀:Je)(mA:Jq->Option Jf)(ns:List Jq)(σ:PH)(s:Je):Prop where
 ev:EnvR C env ρ σ s.heap
 m:Sim C σ s.heap
 ak:AOK C n A l σ s.heap
 st:Step none1 σ₀ s₀.heap σ s.heap
 r:Rest s₀ s
 hf:Half s.heap x dx k mA
 nx:σ x=Jb
 nd:σ dx=Jb
 wi:Within mA ns
theorem uT{env:Js}{S:Rho}{s₀ s:Je}{ns:List Jq}{fl:List String}{P:PV->PH->Prop}{R:Flow->Je->Prop}{Er:Jf->Je->Prop}
  (hE:WB C G n e)(hm:mAsg sc f e y=Jc)(sr:ScR sc env)(I:Ini C n A l env S x dx k B s₀ mA ns σ s)(U:S.get "self"=Ja (.ref x))(N:NewAt C.B k fI fl)(i:f∈fl)(hz:ns.length<=100)(bd:C.B.get? dx=Jb)(bx:C.B.get? x=Jb)
  (d0:s₀.heap.get? dx=Jb)(fL:env.locals≠dx)(fc:∀y c,env.cells.lookup y=Ja c->c≠dx)(ff:∀X∈l,∀L,X.frame=Ja L->L≠dx)(w:we G (aO C n) e S σ P λo0 o0=>False)
  (kk:∀p v σ1 W,P p σ1->VR C σ1 W.heap p v->(∀q u,VR C σ s.heap q u->VR C σ1 W.heap q u)->Ini C n A l env S x dx k B s₀ (λz=>if z=Qb f then Ja v else mA z) (Qb f::ns) σ1 W->R .next W):Jh (Mo C) A (exec y env) R Er s:=by
 refine vf (P:=λy=>Jh (Mo C) A (exec y env) R Er s) hm λp1 p2 p4 v h1 h2 M h3=> ?_;obtain⟨nm,q,Na,bs,sn,sub,ae,dd,k0,k1,k2,k3,k5,mN,hC,hN,hi,hs,hf⟩:=N;refine YZ ?_<|ia M rfl;refine YF ((hE sc v h3).1 ⟨sr,I.ev,I.m,I.ak⟩ w) (λv W hv=> ?_) λo0 o0 z=>XP.none z;obtain⟨p,σ1,O,V,H,r1,w1⟩:=hv;have m:=I.ev.step H;obtain⟨T,aa,j⟩:=I.hf.step H I.nx I.nd;refine k4 m (jL sr h1) h2 U λu hu=> ?_;rw[show u= .ref x from hu];obtain⟨Y,g,d,t,os⟩:=W;have ac:x≠k:=λz=>by rw[z,hC] at bx;exact Vl.Internal.sn bx
 refine store_attr F.store_object (V.base _ _ hC) (hN.keeps V.base) hs (hf f i).1 (hf f i).2 ac T.inst (λh' D I' keep same=> ?_) I.wi (zle hz<|by rw[JW];decide);obtain⟨ob,q1,q2,Q,q4⟩:=T.obj;obtain⟨b,a,o2,o3,o4,o5⟩:=same _ q1;obtain rfl:b=ob:=by
  have o6:=(o5 dx Q).trans Q.symm;obtain⟨c1,d1,af,ak⟩:=b;obtain⟨c2,d2,ah,aj⟩:=ob;simp only at o2 o3 o4 o6;subst o2 o3 o4 o6;rfl
 have ab:h'.get? x=Y.get? x:=a.trans q1.symm;have mv:Mv (· ∈ [dx]) Y h':=λc o f e=>by
  by_cases z:c=x
  ·rw[z] at e ⊢;exact ab.trans e
  ·exact keep c o z (λad ai e0 J q=>by obtain rfl:=sj<|q1.symm.trans e0;obtain rfl:=sj<|Q.symm.trans J;exact f<|Qk.mpr q) e
 have Z:Fok C σ1 Y (· ∈ [dx]):=λc f=>by have f:=Qk.mp f;subst f;exact⟨bd,.inl ⟨j,T.noTup⟩⟩
 have K:∀ {c:Jg},c≠dx->¬c∈ [dx]:=λz q=>z<|Qk.mp q;refine kk p v σ1 ⟨h',g,d,D,os⟩ w1 (O.mv mv Z) (λq u r=>(r.step H).mv mv Z) ⟨m.mv mv Z (K fL) λy c q=>K<|fc y c q,V.mv mv Z<|gE j,(I.ak.step H).mv mv λX he L q=>K<|ff X he L q,(I.st.trans H).mv mv λc f=>by rw[Qk.mp f];exact d0,I.r.trans ⟨r1.1,r1.2⟩,⟨⟨b,a,q2,Q,q4⟩,T.ne,?_⟩,aa,j,Within.cons _ v I.wi⟩;obtain⟨o,J,e2,e3,e4⟩:=I';obtain rfl:=sj<|a.symm.trans J
 rcases e4 with⟨q,o0⟩|⟨d',q,o0,e5⟩
 ·exact Vl.Internal.sn<|Q.symm.trans q
 ·obtain rfl:=sj<|Q.symm.trans q;exact e5
theorem AOK.call{A:Jj}(a:AOK C (n+2) A l σ h)(st:Step none1 σ h σ' h'):AOK C (n+1) (A.under (.builtin "type.__call__" ⟨.ref k::vs,[]⟩)) l σ' h':=by
 have a:=a.step st;refine⟨?_,?_,a.stack,a.frs,a.calm⟩
 ·show A.depth+(0+1+0+0)+(n+1)+2<_;exact QX (Kk (QT<|by rw[QL,Ym A.depth (n+1)]) 2) a.depth
 ·have:=a.units;show A.units+_+30*(n+1)+300<_;refine QX (Kk ?_ 300) this;rw[QL];exact KI (show _<=30 from Ys rfl)<|A.units+30*(n+1)
theorem nN{env:Js}{d:Rho}{s₀:Je}{fl:List String}{R:Flow->Je->Prop}{Er:Jf->Je->Prop}(K:ScR sc env)(U:d.get "self"=Ja (.ref x))(N:NewAt C.B k fI fl)(bd:C.B.get? dx=Jb)(b:C.B.get? x=Jb)
  (Z:s₀.heap.get? dx=Jb)(F:env.locals≠dx)(Y:∀y c,env.cells.lookup y=Ja c->c≠dx)(ff:∀en∈l,∀L,en.frame=Ja L->L≠dx):∀ (V:List String) (es:List E) (ys:List Jo) (mA:Jq->Option Jf) (ns:List Jq) (σ:PH) (s:Je) (P:List PV->PH->Prop),mAsgs sc V es ys=Jc->(∀e∈es,WB C G n e)->(∀f∈V,f∈fl)->ns.length+V.length<=100->V.Nodup->
  Ini C n A l env d x dx k a s₀ mA ns σ s->wes G (aO C n) es d σ P (λo0 o0=>False)->
  (∀ps vs σ1 W m J,P ps σ1->VRs C σ1 W.heap ps vs->(∀q u,VR C σ s.heap q u->VR C σ1 W.heap q u)->(∀ (i:Nat) f p,V[i]? =Ja f->ps[i]? =Ja p->∃u,m (Qb f)=Ja u/\VR C σ1 W.heap p u)->(∀z,(∀f∈V,z≠Qb f)->m z=mA z)->Ini C n A l env d x dx k a s₀ m J σ1 W->R .next W)->Jh (Mo C) A (execs ys env) R Er s
 |[],es,ys=>λmA ns σ s P Q o0 o0 o0 o0 I w D=>by
  rcases es with o0|⟨o0,o0⟩<;>rcases ys with _|⟨_,_⟩<;>try exact ft Q
  exact JM<|D [] [] σ s mA ns w rfl (λo0 o0 r=>r) (λi f p q=>by rw[List.getElem?_nil] at q;exact Vl.Internal.ns q) (λo0 o0=>rfl) I
 |f::V,es,ys=>λmA ns σ s P Q M X T nd I w D=>by
  rcases es with o0|⟨e,es⟩<;>rcases ys with _|⟨y,ys⟩<;>try exact ft Q
  obtain⟨h1,h2⟩:=Qh.mp (show(mAsg sc f e y&&mAsgs sc V es ys)=Jc from Q);obtain⟨nf,nd⟩:=Qy.mp nd;refine J5 (uT (M e<|.head _) h1 K I U N (X f<|.head _) (Qv (QO _ _) T) bd b Z F Y ff w λp v σ1 W w1 j keep I1=> ?_);refine nN K U N bd b Z F Y ff V es ys _ _ _ _ _ h2 (λe he=>M e<|.tail _ he) (λf hf=>X f<|.tail _ hf) (by rw[KW] at T ⊢;exact Qv (QT<|Nat.succ_add _ _) T) nd I1 w1 λps vs O s2 m J hp hv B t o I2=> ?_;refine D (p::ps) (v::vs) O s2 m J hp ⟨v,vs,rfl,B _ _ j,hv⟩ (λq u r=>B _ _<|keep _ _ r) (λi g q S H=> ?_) (λz T=> ?_) I2
  ·induction i using Nat.casesOn with
   |zero=>
    obtain rfl:=sj S;obtain rfl:=sj H;exact⟨v,(o (Qb f) λg S z=>nf<|by rw[ofString_inj z];exact S).trans (Y8 rfl),B _ _ j⟩
   |succ i=>exact t i g q S H
  ·exact(o z λg S=>T g<|.tail _ S).trans (Y7<|T f (.head _))
theorem pk(g:GOK C G mg mb){oI:Jp}{fd:Jr}{r as:List String}(S:C.icl c=Ja k)(aj:C.fv c=Ja (.ref k))(kp:Kp C (.ref k))(N:NewAt C.B k fI r)(F:FnIn C.B ("self"::as) fI oI fd ys)(aa:oI.cls= .type "function")(ah:mAsgs fd.scope r es ys=Jc)
  (W:C.flds c=r)(ad:r.Nodup)(ai:r.length<=50)(V:∀e∈es,WB C G n e){ps:List PV}(hl:ps.length=as.length)(ls:List String)
  (w:∀x,σ x=Jb->wes G (aO C n) es (rho0 ("self"::as) ls (.ref x::ps)) σ (λJ O=>∀d a,O d=Jb->O a=Jb->d≠a->Q (.ref a) ((O.set d<|.fd c J).set a (.inst d))) λo0 o0=>False):aO C (n+2) c ps σ Q X:=by
 refine⟨.ref k,aj,kp,λA l s M ak m hv=> ?_⟩;obtain⟨nm,q,Na,bs,sn,sub,aw,dd,k0,k1,k2,k3,k5,mN,hC,hN,hi,hs,hf⟩:=id N;obtain⟨hp,gg,dr,tk,os⟩:=s;refine wpAny_call_obj_init PySem.F.objNew (m.base _ _ hC) (hN.keeps m.base) hi (m.base _ _ F.ho) aa λh' x dx D=>wpAny_call ?_;have bx:C.B.get? x=Jb:=(dF m D.newX).1;have bd:C.B.get? dx=Jb:=(dF m D.newD).1;have t:Step none1 σ hp σ h':= .more D.keeps;have m0:Sim C σ h':=m.more D.keeps;obtain⟨o,ox,oc,ac,od⟩:=D.inst;have ar:AOK C (n+1) (A.under<|.builtin "type.__call__" ⟨.ref k::M,[]⟩) l σ h':=ak.call t;refine o9 g F ls (Ub (· +1) hl) (s:=⟨h',gg,dr,tk,os⟩) (vs:= .ref x::M) (args:= .ref x::ps) ar m0 ⟨.ref x,M,rfl,rfl,hv.step t⟩ λv Z sr ev m1 H r1 au an Y b back=> ?_;have K:=D.dict o ox;obtain⟨af,P⟩:dx≠x/\h'.Ns1 dx λo0=>Jb:=by
  rcases od with⟨q,o0⟩|⟨d',q,T,B⟩
  ·exact Vl.Internal.sn<|K.symm.trans q
  ·obtain rfl:=sj<|K.symm.trans q;exact⟨T,B⟩
 have nx:σ x=Jb:=(dF m D.newX).2;have nd:σ dx=Jb:=(dF m D.newD).2;obtain⟨ap,ao,al⟩:=(Half.mk (k:=k) ⟨o,ox,oc,K,ac⟩ af P).step H nx nd;have R:dx<h'.objs.size:=by obtain⟨o0,o0,o0,z,o0⟩:=P;exact QJ z
 have fL:v.locals≠dx:=by rw[Y];exact KQ R
 have fc:∀y c,v.cells.lookup y=Ja c->c≠dx:=λy c q=>KQ<|QK R (b y c q);have ff:∀en∈v::l,∀L,en.frame=Ja L->L≠dx:=λen V L q=>by
  rcases Qt.mp V with rfl|V
  ·obtain rfl:=sj<|an.symm.trans q;exact fL
  ·obtain⟨o0,L',o',es,ep,T,B,z3,z4,z5⟩:=ak.frs en V;obtain rfl:=sj<|T.symm.trans q;exact λz=>by rw[z,D.newD] at z4;exact Vl.Internal.ns z4
 have U:(rho0 ("self"::as) ls (.ref x::ps)).get "self"=Ja (.ref x):=Y8 rfl;have I0:Ini C n ((A.under<|.builtin "type.__call__" ⟨.ref k::M,[]⟩).deeper v) (v::l) v (rho0 ("self"::as) ls (.ref x::ps)) x dx k σ ⟨hp,gg,dr,tk,os⟩ (λo0=>Jb) [] σ Z:=⟨ev,m1,au,t.trans H,⟨r1.1,r1.2⟩,ap,ao,al,Within.nil⟩
 refine nN sr U N bd bx D.newD fL fc ff r es ys _ _ _ _ _ ah V (λo0 q=>q) (Qv (QT<|Wx _)<|Qv ai (by decide)) ad I0 (w x nx) λJ us O s2 ax ay w2 rv keep am ho I=>⟨rfl,?_⟩
 obtain⟨ab,av,ep,g1,g2,g3,g4,g5⟩:=I.hf.ns;obtain⟨o2,b1,b2,b3,b4⟩:=I.hf.obj;have ae:FD C O s2.heap c J ab:=by
  refine⟨av,ep,g2,g3,λi f p h1 h2=> ?_,λz hz=> ?_⟩
  ·rw[W] at h1;obtain⟨u,T,B⟩:=am i f p h1 h2;exact⟨u,(g5 _).trans T,B⟩
  ·rw[W] at hz;exact(g5 z).trans (ho z hz)
 have m3:=I.m.adopt (po:= .fd c J) I.nd I.hf.noTup g1 bd ae;have aq:(O.set dx<|.fd c J) x=Jb:=(PH.set_ne _ _<|Ne.symm I.hf.ne).trans I.nx;have m4:=m3.adopt (po:= .inst dx) aq (λws j z=>by obtain rfl:=sj<|b1.symm.trans z;cases b2) b1 bx ⟨c,k,S,b2,b4,b3,_,PH.set_same _ _ _⟩;exact⟨.ref x,_,rfl,m4,(I.st.add _ D.newD nd).add _ D.newX nx,I.r,w2 dx x I.nd I.nx I.hf.ne⟩
end
end
section
open PySem.W PyProof.Rows
theorem jJ:∀ {as:List Jg},(g9 h as).In h
 |[]=>λa o e=>by exact ns e
 |b::r=>λa o e=>by
  induction R:h.get? b with
  |none=>
   have:g9 h (b::r)=g9 h r:=by simp[g9,R]
   rw[this] at e;exact jJ (as:=r) a o e
  |some C=>
   have:g9 h (b::r)=(b,C)::g9 h r:=by simp[g9,R]
   rw[this,Yp] at e;by_cases q:a=b
   ·subst q;rw[beq_self_eq_true] at e;obtain rfl:=sj e;exact R
   ·rw[beq_eq_false_iff_ne.mpr q] at e;exact jJ (as:=r) a o e
theorem xm{K:Frag}{h:Ji}{m:Jq->Option Jf}(X:K.In h)(N:h.Ns a m)(e:nsIn K a x=Ja (Ja v)):m x=Ja v:=by
 obtain⟨o,s,p,w,W,o0,f⟩:=N;unfold nsIn at e
 induction l:K.lookup a with
 |none=>rw[l] at e;exact ns e
 |some b=>
  obtain⟨c,d,t,B⟩:=b;rw[l] at e;have:=X _ _ l;obtain rfl:=sj<|w.symm.trans this;cases W;dsimp only at e
  induction n:s.toList.find? (·.key.isStr x) with
  |some C=>
   rw[n] at e;cases e;rw[<-f];unfold nsFind findBy;rw[<-Array.find?_toList,n];rfl
  |none=>
   rw[n] at e;dsimp only at e;by_cases q:s.toList.any (·.refKey)=Jc
   ·exact ns<|(Y8 q).symm.trans e
   ·rw[Y7 q] at e;cases e
end
theorem pL{ns:List Jq}:∀ {vs:List Jf},vs.length=ns.length->ns.Nodup->∀n∈ns,((ns.zip vs).lookup n).isSome=Jc:=by
 induction ns with
 |nil=>intro vs _ _ n h;cases h
 |cons a r i=>
  intro vs l d n h
  induction vs using List.casesOn with
  |nil=>simp at l
  |cons v vs=>
   simp only[Wy];by_cases q:n=a
   ·subst q;rw[lookup_cons_self];rfl
   ·rw[bT q];exact i (by simpa using l) (Qy.mp d).2 n ((Qt.mp h).resolve_left q)
theorem lq{ns:List Jq}:∀ {vs:List Jf},vs.length=ns.length->ns.Nodup->ns.filterMap (λn=>((ns.zip vs).lookup n).map (n,·))=ns.zip vs:=by
 induction ns with
 |nil=>intro vs _ _;rfl
 |cons a r W=>
  intro vs T d
  induction vs using List.casesOn with
  |nil=>simp at T
  |cons v vs=>
   simp only[Wy,List.filterMap_cons,lookup_cons_self,We]
   congr 1
   have key:∀l:List Jq,a∉l->l.filterMap (λn=>(YB n ((a,v)::r.zip vs)).map (n,·))=l.filterMap (λn=>((r.zip vs).lookup n).map (n,·)):=by
    intro l
    induction l with
    |nil=>intro _;rfl
    |cons b q i=>
     intro h;simp only[Qt,not_or] at h;simp only[List.filterMap_cons,bT (λe=>h.1 e.symm:b≠a),i h.2]
   rw[key r (Qy.mp d).1];exact W (by simpa using T) (Qy.mp d).2
theorem qy{L:Type}{a b:Sem L}(h:c=Jd):(if c=Jc then a else b)=b:=by rw[h];rfl
theorem iR{f:Jr}{as:List Arg}{z:List (Option Jl)}{ds:List Jl}{v:List Jf}(N:f.params={posonlyargs:=[],args:=as,vararg:=Jb,kwonlyargs:=[],kw_defaults:=z,kwarg:=Jb,defaults:=ds})
  (q:f.defaults= .none) (nd:(as.map (·.arg)).Nodup) (l:v.length=as.length):YY f ⟨v,[]⟩=pure ((as.map (·.arg)).zip v):=by
 have h:v.length=(as.map (·.arg)).length:=by simpa using l
 have T:((as.map (·.arg)).filter λn=>(((as.map (·.arg)).zip v).lookup n).isNone)=[]:=by
  rw[Yk];intro n o;have:=pL h nd n o;simp[Option.isSome_iff_ne_none.mp this]
 have e:=lq h nd;have d:∀k,Yd k ([]:List Jf)=[]:=λk=>List.drop_nil;obtain⟨o0,o0,o0,o0,o0,o0,o0,o0,o0,o0,o0,o0,o0,o0,o0⟩:=f;cases N;cases q;unfold YY;dsimp only[Wj,Ku];refine(qy (c:=decide (v.length>(as.map (·.arg)).length)&&Jc)<|by rw[h,Y5 (KH _)];rfl).trans ?_;refine(qy (c:= !(Wh (λn=>(((as.map (·.arg)).zip v).lookup n).isNone) (List.take ((as.map (·.arg)).length-(Yd (0-(as.map (·.arg)).length) ([]:List Jf)).length) (as.map (·.arg)))).isEmpty)<|by rw[d,WA,Nat.sub_zero,Ke,T];rfl).trans ?_;dsimp only[Option.getD_none];rw[d,List.zip_nil_right];show(pure (List.filterMap (λn=>Wn (λx=>(n,x)) (YB n ((as.map (·.arg)).zip v))) (as.map (·.arg)++[])):Sem (List<|Str×Jf))=_;rw[QH];exact Ub pure e
section
open PySem.W PyProof.Rows
theorem iQ{ps:List String}(h:mo ps a=Jc):X3 λas k ds=>a={posonlyargs:=[],args:=as,vararg:=Jb,kwonlyargs:=[],kw_defaults:=k,kwarg:=Jb,defaults:=ds}/\as.map (·.arg)=ps.map Qb:=by
 obtain⟨p,as,v,o,k,w,ds⟩:=a
 induction p using List.casesOn with
 |cons=>exact bnx h
 |nil=>induction v with
  |some=>exact bnx h
  |none=>induction o with
   |cons=>exact bnx h
   |nil=>induction w with
    |some=>exact bnx h
    |none=>exact⟨as,k,ds,rfl,Y9 h⟩
theorem cG{L:Type}{o:Option L}{p:L->Bool}(h:o.any p=Jc):∃x,o=Ja x/\p x=Jc:=by
 induction o with
 |none=>exact ft h
 |some x=>exact⟨x,rfl,h⟩
theorem jX(h:refOf o=Ja a):o=Ja (.ref a):=by
 induction o with
 |none=>exact ns h
 |some v=>induction v using Value.casesOn with
  |ref b=>obtain rfl:=sj h;rfl
  |_=>exact ns h
theorem mM{d:Data}(h:clsOf d=Ja c):d= .cls c:=by
 induction d with
 |cls b=>obtain rfl:=sj h;rfl
 |_=>exact ns h
theorem vP:mz h b=Jc->J2 h bmE b:=by
 induction b with
 |nil=>exact λe=>ft e
 |cons v l i=>
  intro e
  rcases Wv.mp e with e|e
  ·rw[Y9 e];exact .base
  ·obtain⟨A,r,e⟩:=cG e;obtain⟨⟨W,U,t,s⟩,o,e⟩:=cG e;obtain⟨d,c,e⟩:=cG e;obtain⟨T,w,X⟩:=and3 e;rw[sj (jX r)];have c:t= .cls d:=mM c;subst c;exact .own o (.of_isNs T) (Kd.mp w)<|i X
theorem rW(h:qk l=Jc):X5 λS P k F O=>l=[S,P,k,F,Ja (.builtin "ValueError.__new__"),O]:=⟨_,_,_,_,_,Y9 h⟩
theorem vJ(e:mroOK h k l=Jc):∃b,l= .ref k::b/\mz h b=Jc:=by
 induction l using List.casesOn with
 |nil=>exact ft e
 |cons v b=>
  obtain⟨c,Z⟩:=Qh.mp e;exact⟨b,by rw[Y9 c],Z⟩
theorem ot{d:Data}(h:p9 d=Ja f):d= .func f:=by
 induction d with
 |func T=>obtain rfl:=sj h;rfl
 |_=>exact ns h
theorem oY{d:FuncBody}(h:pS d=Ja b):d= .stmts b:=by
 induction d with
 |stmts c=>obtain rfl:=sj h;rfl
 |_=>exact ns h
theorem sA{o:Jp}{c:ClassData}{S P U F O:Option Jf}(N:o.cls= .type "type")(p:o.data= .cls c)(J:c.mro= .ref k::b)(w:c.hasDict=Jc)(B:c.hasDel=Jd)(W:o.slots.toList=[S,P,U,F,Ja (.builtin n),O]):
  o=JF c.name c.qualname k c.ns c.bases b Jc c.slotNames c.subclasses c.abstract c.collection o.dict S P U F O n:=by
 obtain⟨M,f,t,⟨s⟩⟩:=o;obtain⟨nm,bs,m,ns,q,h,sn,sub,a,l,d⟩:=c;cases N;cases p;cases J;cases w;cases B;cases W;rfl
inductive FnSeen(h:Ji)(names:List String)(oI:Jp):Prop
 |mk (fd:Jr) (body:List Jo) (hfc:oI.cls= .type "function") (hd:oI.data= .func fd) (cd:h.CodeRec fd.code fd.qualname) (hb:fd.body= .stmts body) (clo:fd.closure=[]) (bind:∀vals:List Jf,vals.length=names.length+1->YY fd ⟨vals,[]⟩=pure ((("self"::names).map Qb).zip vals))
  (par:∀x∈"self"::names,fd.scope.names.lookup (Qb x)=Ja .local/\(Qb x==("__debug__":Jq))=Jd) (nd:("self"::names).Nodup) (co:fd.scope.isCoroutine=Jd) (gen:fd.scope.isGenerator=Jd) (kind:fd.scope.kind= .function) (mat:mIni fd.scope names body=Jc):FnSeen h names oI
theorem xw{names:List String}(I:fnObj h names o=Jc):FnSeen h names o:=by
 obtain⟨J,z⟩:=Qh.mp I;obtain⟨d,f,m⟩:=cG z;obtain⟨b,R,V⟩:=cG m;obtain⟨F,L,H,D⟩:=and4 V;have c:=and3 F;have Z:=and3 L;have O:=and3 H;obtain⟨a,k,s,N,q⟩:=iQ Z.1;have nd:("self"::names).Nodup:=Y6 Z.2.2;refine⟨d,b,Y9 J,ot f,.of_ok c.1,oY R,List.isEmpty_iff.mp c.2.1,λv T=> ?_,λx hx=> ?_,nd,(QS _).mp O.1,(QS _).mp O.2.1,Y9 O.2.2,D⟩
 ·have l:v.length=a.length:=by
   have:=Ub YC q;rw[Qd,Qd,KW] at this;rw[this];exact T
  rw[<-q];exact iR N (Y9 c.2.2) (by rw[q];exact cU nd) l
 ·obtain⟨t,M⟩:=Qh.mp<|Qx.mp Z.2.1 x hx;exact⟨Y9 t,(QS _).mp M⟩
theorem yb{h:Ji}{K:Frag}{k:Jg}{names:List String}(e:iniOK h K k names=Jc):IniAt h K k names:=by
 obtain⟨p,R,W,u⟩:=and4 e;obtain⟨o,d,j⟩:=cG p;obtain⟨c,v,E⟩:=cG j;obtain⟨A,V,f⟩:=and3 E;have g:=and3 A;have X:=and3 V;obtain⟨Z,w,Q⟩:=cG f;obtain⟨N,I,J⟩:=cG Q;obtain⟨r,b,Y,x,F,D,L,a,t,B,O,n,S,T⟩:=xw J;obtain⟨z,m,l⟩:=vJ g.2.2;obtain⟨H,P,U,y,C,s⟩:=rW g.2.1;have M:=d.trans<|congrArg Ja (sA (Y9 g.1) (mM v) m X.1 ((QS _).mp X.2.1) s);exact⟨z,c.ns,c.name,c.qualname,c.bases,c.slotNames,c.subclasses,c.abstract,c.collection,o.dict,H,P,U,y,C,h.nsMap c.ns,Z,N,r,b,M,.of_isNs X.2.2,jX w,vP l,I,Y,x,F,D,L,a,t,B,O,n,S,T,Y9 R,(λq=>by rw[q] at W;exact ft W),Y6 u⟩
theorem IniAt.keeps{h A:Ji}{K:Frag}{k:Jg}{names:List String}(I:IniAt h K k names)(kp:∀b o,h.get? b=Ja o->A.get? b=Ja o):IniAt A K k names:=by
 obtain⟨M,N,nm,q,bs,sn,sub,w,D,U,S,P,X,F,O,Y,H,V,r,d,C,a,t,T,G,f,J,W,B,c,i,p,u,x,g,n,m,s,l⟩:=I;exact⟨M,N,nm,q,bs,sn,sub,w,D,U,S,P,X,F,O,Y,H,V,r,d,kp _ _ C,a.keeps kp,t,T.keeps kp,kp _ _ G,f,J,W.keeps kp,B,c,i,p,u,x,g,n,m,s,l⟩
end
section
open PySem.W PyProof.Rows
theorem zO{h:Ji}{o:Jp}{f:Jr}(d:h.get? a=Ja o)(W:o.data= .func f)(R:f.body= .stmts body)(e:fnB h ps f=Jc):FnIn h ps a o f body:=by
 obtain⟨F,L,H,b⟩:=and4 e;have c:=and3 F;have Z:=and3 L;have O:=and3 H;have Q:=and3 b;obtain⟨s,k,z,N,q⟩:=iQ Z.2.2;have nd:ps.Nodup:=Y6 O.2.1;refine⟨d,W,.of_ok c.1,R,List.isEmpty_iff.mp c.2.1,Y9 Z.1,Y9 Z.2.1,λv T=> ?_,O.1,nd,(QS _).mp Q.1,(QS _).mp Q.2.1,Y9 Q.2.2,O.2.2⟩;have l:v.length=s.length:=by
  have:=Ub YC q;rw[Qd,Qd] at this;exact T.trans this.symm
 rw[<-q];exact iR N (Y9 c.2.2) (by rw[q];exact cU nd) l
inductive FnS(h:Ji)(ps:List String)(mt:Jk->List Jo->Bool)(a:Jg):Prop
 |mk (o:Jp) (fd:Jr) (body:List Jo) (F:FnIn h ps a o fd body) (c:o.cls= .type "function") (m:mt fd.scope body=Jc):FnS h ps mt a
theorem qJ{m:Jk->List Jo->Bool}(e:p7 h ps m a=Jc):FnS h ps m a:=by
 obtain⟨o,d,T⟩:=cG e;obtain⟨w,X⟩:=Qh.mp T;obtain⟨S,f,u⟩:=cG X;obtain⟨b,R,V⟩:=cG u;obtain⟨q,N⟩:=Qh.mp V;exact⟨o,S,b,zO d (ot f) (oY R) q,Y9 w,N⟩
theorem FnS.keeps{h A:Ji}{t:Jk->List Jo->Bool}(x:FnS h ps t a)(kp:∀b o,h.get? b=Ja o->A.get? b=Ja o):FnS A ps t a:=by obtain⟨o,f,b,F,c,m⟩:=x;exact⟨o,f,b,F.keeps kp,c,m⟩
inductive MethAt(h:Ji)(K:Frag)(c:Cls)(a:Jg)(t:Fn):Prop
 |mk (m:Jg) (p:bN t.f=Jd) (cn:cOf t.f=c.nm) (n:mOf t.f∉c.fs) (e:findIn K (.ref a) (Qb (mOf t.f))=Ja (Ja (.ref m))) (ty:typeIn K (.ref m)=Ja (.type "function")) (F:FnS h t.ps (λsc b=>mSs sc t.b b) m):MethAt h K c a t
inductive ClsAt(h:Ji)(K:Frag)(c:Cls)(a:Jg):Prop
 |mk (fI:Jg) (N:NewAt h a fI c.fs) (F:FnS h ("self"::c.as) (initM c) fI) (ga:findIn K (.ref a) "__getattribute__"=Ja (Ja (.builtin "object.__getattribute__"))) (gh:findIn K (.ref a) "__getattr__"=Ja Option.none) (dct:hasDictIn K a=Jc)
  (fl:∀f∈c.fs,findIn K (.ref a) (Qb f)=Ja Option.none) (ms:∀t∈c.ms,MethAt h K c a t) (ne:c.fs.Nodup) (pn:bN c.nm=Jc) (h50:c.fs.length<=50):ClsAt h K c a
theorem pT(h:uE l=Jc):X5 λS P k F O=>l=[S,P,k,F,Ja (.builtin "object.__new__"),O]:=⟨_,_,_,_,_,Y9 h⟩
theorem wT{h:Ji}{K:Frag}{c:Cls}{a:Jg}{t:Fn}(e:methB h K c a t=Jc):MethAt h K c a t:=by
 obtain⟨T,w,X⟩:=and3 e;obtain⟨T,b⟩:=and2 T;obtain⟨m,N,p⟩:=cG X;obtain⟨J,O⟩:=Qh.mp p;have B:=jX N;refine⟨m,(QS _).mp T,Y9 b,by simpa using w,?_,Y9 J,qJ O⟩
 induction q:findIn K (.ref a) (Qb<|mOf t.f) with
 |none=>rw[q] at B;exact ns B
 |some u=>rw[q] at B;exact Ub Ja B
theorem z8{h:Ji}{K:Frag}{c:Cls}{a:Jg}(e:clsB h K c a=Jc):ClsAt h K c a:=by
 obtain⟨p,j,W,u⟩:=and4 e;obtain⟨o,Y,V⟩:=cG p;obtain⟨d,v,q⟩:=cG V;obtain⟨L,Q,G,E⟩:=and4 q;have g:=and3 L;have X:=and3 Q;have T:=and3 G;obtain⟨I,w,B⟩:=cG E;obtain⟨S,P,U,F,O,s⟩:=pT g.2.1;have C:=Y.trans<|congrArg Ja (sA (Y9 g.1) (mM v) (Y9 g.2.2) X.1 ((QS _).mp X.2.1) s);rw[(QS _).mp X.2.2] at C;have k:=and4 j;refine⟨I,⟨d.name,d.qualname,d.ns,d.bases,d.slotNames,d.subclasses,d.collection,o.dict,S,P,U,F,O,h.nsMap d.ns,C,.of_isNs T.1,jX w,Kd.mp T.2.1,λf m=> ?_⟩,qJ B,Y9 k.1,Y9 k.2.1,k.2.2.1,λf m=>Y9<|Qx.mp k.2.2.2 f m,λt H=>wT<|Qx.mp W t H,Y6 (and3 u).1,(and3 u).2.1,Y6 (and3 u).2.2⟩;obtain⟨A,z⟩:=Qh.mp<|Qx.mp T.2.2 f m;exact⟨Kd.mp A,by rw[typeLookup_type,builtinLookup_eq_fast,Y9 z]⟩
theorem ClsAt.keeps{h A:Ji}{K:Frag}{c:Cls}{a:Jg}(x:ClsAt h K c a)(kp:∀b o,h.get? b=Ja o->A.get? b=Ja o):ClsAt A K c a:=by
 obtain⟨f,N,F,g,V,d,fl,s,L,T,E⟩:=x;exact⟨f,N.keeps kp,F.keeps kp,g,V,d,fl,λt W=>by obtain⟨m,p,Y,n,e,y,F⟩:=s t W;exact⟨m,p,Y,n,e,y,F.keeps kp⟩,L,T,E⟩
structure Seen(h:Ji)(K:Frag)(k:Kinds):Prop where
 kin:K.In h
 ok:j4 K k=Jc
 ini:∀c∈k.inis,k.cs.contains c=Jc/\∃a,bZ K c=Ja a/\IniAt h K a (k.flds c)
 cls:∀c∈k.cl,∃a,bZ K c.nm=Ja a/\ClsAt h K c a
def hookE(k:Kinds):Hook where
 α:=Bool
 obs:=obsE k
 val:=λo0=>Jc
 says:=λo0 h=>∃K:Frag,Seen h K k
 of:=λo0 s e=>⟨_,jJ,(and3 e).1,λc C=>by
  obtain⟨N,p⟩:=Qh.mp<|Qx.mp (and3 e).2.1 c C;obtain⟨a,J,w⟩:=cG p;exact⟨N,a,J,yb w⟩,λc C=>by
  obtain⟨a,J,w⟩:=cG (Qx.mp (and3 e).2.2 c C);exact⟨a,J,z8 w⟩⟩
 keeps:=λo0 h A z kp=>by obtain⟨K,a⟩:=z;exact⟨K,a.kin.keeps kp,a.ok,λc C=>by obtain⟨N,b,p,J⟩:=a.ini c C;exact⟨N,b,p,J.keeps kp⟩,λc C=>by obtain⟨b,p,J⟩:=a.cls c C;exact⟨b,p,J.keeps kp⟩⟩
end
section
open PySem.W PyProof.Rows
def fnOK(p:Jn)(t:Fn):Bool:=
 match (recsOf p).find? λd=>d.name==Qb t.f with
 |some d=>mo t.ps d.params&&(t.ps.all λp=>d.scope.names.lookup (Qb p)==Ja .local||d.scope.names.lookup (Qb p)==Ja .cell)&&decide t.ps.Nodup&& !d.scope.isCoroutine&& !d.scope.isGenerator&&
   d.scope.kind== .function&&(d.scope.names.all λp=>p.2 != .free)&&mSs d.scope t.b d.body&&bN t.f
 |none=>Jd
noncomputable def valIs:Option YO->PV->Bool
 |some (.int j),.int i=>j==i
 |some (.str j),.str i=>j==Qb i
 |_,_=>Jd
def topOK(p:Jn)(loose:List Jq)(gl:List (String×PV))(tab:List Fn):Bool:=
 (tab.all (fnOK p))&&(bltNames.all λx=> !startupNames.contains (Qb x)&& !loose.contains (Qb x)&& !((recsOf p).map (·.name)).contains (Qb x)&& !((litsOf p).map (·.1)).contains (Qb x)&&
  !((clssOf p loose).map (·.name)).contains (Qb x))&&gl.all λq=>valIs (valOf p (Qb q.1)) q.2
def qp(p:Jn)(loose:List Jq)(k:Kinds):Bool:=
 (k.mks.all λc=>k.cs.contains c&&specOf p (Qb c)==Ja ("ValueError.__new__",bmV)&&(k.flds c).isEmpty)&& !k.cs.contains "ValueError"&&
 (!startupNames.contains (Qb "ValueError")&& !loose.contains (Qb "ValueError")&& !((recsOf p).map (·.name)).contains (Qb "ValueError")&& !((litsOf p).map (·.1)).contains (Qb "ValueError")&&
  !((clssOf p loose).map (·.name)).contains (Qb "ValueError"))
def fvC(K:Frag)(k:Kinds)(f:String):Option Jf:=(k.cl.find? λc=>f==c.nm||c.ms.any (·.f==f)).bind λc=>(bZ K c.nm).bind λa=>if f=c.nm then Ja (.ref a) else(findIn K (.ref a)<|Qb (mOf f)).getD Jb
def cxE(prog:Jn)(w:Jm)(B:Ji)(mg:Jq->Option Jf)(tab:List Fn)(K:Frag)(k:Kinds):Cx:=
 {prog,w,B,cls:=λc=>if k.cs.contains c then bZ K c else Jb,fv:=λf=>if tab.any (·.f==f) then mg (Qb f) else fvC K k f,ok:=True,calm:=True,K,flds:=k.flds,icl:=λn=>if k.cl.any (·.nm==n) then bZ K n else Jb}
noncomputable def gxE(gl:List (String×PV))(tab:List Fn)(k:Kinds):Gx:=
 {glob:=λx=>gl.lookup x,sub:=k.sub,full:=Jc,fn:=λf=>tab.any (·.f==f)||k.cl.any λc=>f==c.nm||c.ms.any (·.f==f),calm:=Jc,cs:=k.cs,mks:=k.mks,inis:=k.inis,flds:=k.flds}
theorem oQ{h:Ji}{o:Jp}(d:h.get? a=Ja o)(v:o.data= .func f):Looks M h (keeperOf (.ref a)) .frame:=by
 intro A Q E s q X;unfold keeperOf;refine YD<|wpAny_load (q a o d) ?_;rw[v];exact YE X
section
variable{prog p:Jn}{w:Jm}{B:Ji}{mg mb:Jq->Option Jf}{loose:List Jq}{mean:ExcName->Option Jf}{gl:List (String×PV)}{tab:List Fn}{K:Frag}{k:Kinds}
theorem xK(T:Top p loose mean mg mb B){t:Fn}(H:t∈tab)(h:fnOK p t=Jc):X4 λa o f body=>FnAt (cxE prog w B mg tab K k) t.f t.ps t.b a o f body/\mg (Qb t.f)=Ja (.ref a):=by
 unfold fnOK at h
 induction q:(recsOf p).find? λd=>d.name==Qb t.f with
 |none=>rw[q] at h;exact ft h
 |some d=>
  rw[q] at h;simp only[QW,QS,Ua,beq_iff_eq] at h;obtain⟨⟨⟨⟨⟨⟨⟨⟨E,Y⟩,J⟩,O⟩,b⟩,W⟩,S⟩,y⟩,i⟩:=h;have n:d.name=Qb t.f:=by simpa using Yw q
  obtain⟨a,o,m,c,P,e,F,X,u⟩:=T.fn d<|Wr q;obtain⟨s,g,z,N,Z⟩:=iQ E;rw[n] at e;refine⟨a,o,_,d.body,⟨⟨F,X,u,rfl,rfl,rfl,rfl,λv r=> ?_,Y,J,O,b,W,S⟩,?_,⟨.frame,.inl rfl,oQ F X⟩,y⟩,e⟩
  rotate_left
  ·show(if tab.any (·.f==t.f) then mg (Qb t.f) else fvC K k t.f)=_;rw[Y8 (Ki.mpr ⟨t,H,by simp⟩)];exact e
  ·have l:v.length=s.length:=by
    have:=Ub YC Z;simp only[Qd] at this;exact r.trans this.symm
   rw[<-Z];exact iR N rfl (by rw[Z];exact cU J) l
theorem mV(X:K.In B)(N:B.Ns JA mg)(e:bZ K c=Ja a):mg (Qb c)=Ja (.ref a):=by
 unfold bZ at e
 induction h:nsIn K JA (Qb c) with
 |none=>rw[h] at e;exact ns e
 |some o=>induction o with
  |none=>rw[h] at e;exact ns e
  |some v=>
   rw[h] at e
   induction v using Value.casesOn with
   |ref b=>obtain rfl:=sj e;exact xm X N h
   |_=>exact ns e
theorem rX{tab:List Fn}(h:tab.all (fnOK p)=Jc)(j:tab.any (·.f==f)=Jc):bN f=Jc:=by
 obtain⟨t,W,e⟩:=Ki.mp j;have e:t.f=f:=Y9 e;subst e;have h:=Qx.mp h t W;unfold fnOK at h
 induction v:(recsOf p).find? λd=>d.name==Qb t.f with
 |none=>rw[v] at h;exact ft h
 |some d=>rw[v] at h;exact(Qh.mp h).2
inductive FvS(B:Ji)(K:Frag)(k:Kinds)(f:String)(v:Jf):Prop
 |cls (c:Cls) (a:Jg) (h:c∈k.cl) (ha:bZ K c.nm=Ja a) (S:ClsAt B K c a) (e:f=c.nm) (ev:v= .ref a):FvS B K k f v
 |me (c:Cls) (a m:Jg) (t:Fn) (h:c∈k.cl) (ha:bZ K c.nm=Ja a) (S:ClsAt B K c a) (ht:t∈c.ms) (e:t.f=f) (p:bN f=Jd) (cn:cOf f=c.nm) (n:mOf f∉c.fs) (q:findIn K (.ref a) (Qb (mOf f))=Ja (Ja (.ref m))) (ty:typeIn K (.ref m)=Ja (.type "function")) (F:FnS B t.ps (λsc b=>mSs sc t.b b) m) (ev:v= .ref m):FvS B K k f v
theorem ClsAt.pn'{c:Cls}(S:ClsAt B K c a):bN c.nm=Jc:=by obtain⟨f,N,F,g,L,d,fl,m,e,n,h⟩:=S;exact n
theorem ClsAt.me{c:Cls}(S:ClsAt B K c a)(W:t∈c.ms):MethAt B K c a t:=by obtain⟨f,N,F,g,L,d,fl,m,n,T,h⟩:=S;exact m t W
theorem rx(l:∀c∈k.cl,∃a,bZ K c.nm=Ja a/\ClsAt B K c a)(h:fvC K k f=Ja v):FvS B K k f v:=by
 obtain⟨c,Z,h⟩:=Qr.mp h;obtain⟨a,T,h⟩:=Qr.mp h;have C:=Wr Z;have D:=Yw Z;obtain⟨i,X,S⟩:=l c C;obtain rfl:=sj<|T.symm.trans X;by_cases q:f=c.nm
 ·rw[Y8 q] at h;exact .cls c a C T S q (sj h).symm
 ·rw[Y7 q] at h;have z:c.ms.any (·.f==f)=Jc:=(Wv.mp D).resolve_left λz=>q<|eq_of_beq z;obtain⟨t,W,e⟩:=Ki.mp z;have e:t.f=f:=Y9 e;subst e;obtain⟨m,p,Y,n,e,y,F⟩:=S.me W;rw[e] at h;exact .me c a m t C T S W rfl p Y n e y F (sj h).symm
theorem uS{c:Cls}(l:∀c∈k.cl,∃a,bZ K c.nm=Ja a/\ClsAt B K c a)(Z:c∈k.cl)(h:(f=c.nm/\bN f=Jc)\/(bN f=Jd/\cOf f=c.nm/\∃t∈c.ms,t.f=f)):fvC K k f=(bZ K c.nm).bind λa=>if f=c.nm then Ja (.ref a) else(findIn K (.ref a) (Qb (mOf f))).getD Jb:=by
 have b:(f==c.nm||c.ms.any (·.f==f))=Jc:=by
  rcases h with⟨rfl,o0⟩|⟨o0,o0,t,W,rfl⟩
  ·rw[beq_self_eq_true];rfl
  ·rw[Ki.mpr ⟨t,W,beq_self_eq_true t.f⟩,Bool.or_true]
 unfold fvC
 induction q:k.cl.find? (λc=>f==c.nm||c.ms.any (·.f==f)) with
 |none=>exact absurd b<|List.find?_eq_none.mp q c Z
 |some Q=>
  have C:=Wr q;have D:=Yw q;obtain⟨o0,o0,S⟩:=l Q C;have e:Q.nm=c.nm:=by
   rcases Wv.mp D with z|z
   ·have z:f=Q.nm:=Y9 z
    rcases h with⟨g,o0⟩|⟨g,o0⟩
    ·exact z.symm.trans g
    ·rw[z,S.pn'] at g;exact tf g
   ·obtain⟨t,W,z⟩:=Ki.mp z;have z:t.f=f:=Y9 z;obtain⟨m,p,n,o0⟩:=S.me W;rw[z] at p n
    rcases h with⟨o0,g⟩|⟨o0,g,o0⟩
    ·exact tf<|g.symm.trans p
    ·exact n.symm.trans g
  rw[KY,e]
theorem qg{c:Cls}(h:∀c∈k.cl,∃a,bZ K c.nm=Ja a/\ClsAt B K c a)(C:c∈k.cl)(T:bZ K c.nm=Ja a)(S:ClsAt B K c a):fvC K k c.nm=Ja (.ref a):=by
 rw[uS h C (.inl ⟨rfl,S.pn'⟩),T,KY];exact Y8 rfl
theorem uB{c:Cls}{t:Fn}(h:∀c∈k.cl,∃a,bZ K c.nm=Ja a/\ClsAt B K c a)(C:c∈k.cl)(T:bZ K c.nm=Ja a)(S:ClsAt B K c a)(W:t∈c.ms)(p:bN t.f=Jd)(n:cOf t.f=c.nm)(e:findIn K (.ref a) (Qb (mOf t.f))=Ja (Ja (.ref m))):fvC K k t.f=Ja (.ref m):=by
 rw[uS h C (.inr ⟨p,n,t,W,rfl⟩),T,KY,Y7<|λq=>by rw[q,S.pn'] at p;exact tf p,e];rfl
theorem xX{C:Cx}{t:Jk->List Jo->Bool}(F:FnS C.B ps t m):Kp C (.ref m):=by obtain⟨o,f,b,F,o0,o0⟩:=F;exact⟨.frame,.inl rfl,oQ F.ho F.hd⟩
theorem zW(T:Top p loose mean mg mb B)(X:K.In B)(l:∀c∈k.cl,∃a,bZ K c.nm=Ja a/\ClsAt B K c a)(h:topOK p loose gl tab=Jc):GOK (cxE prog w B mg tab K k) (gxE gl tab k) mg mb:=by
 unfold topOK at h;simp only[QW] at h;obtain⟨⟨Y,Q⟩,J⟩:=h;refine⟨T.g,T.b,T.nolimit,λx hx=> ?_,λx q U=> ?_,(λo0=>trivial),λo0=>trivial,λf v I W=> ?_,λf W=> ?_⟩
 ·have:=Qx.mp Q x hx;simp only[QW,QS,List.contains_eq_mem,decide_eq_false_iff_not] at this;obtain⟨⟨⟨⟨a,b⟩,c⟩,d⟩,e⟩:=this;refine⟨T.free _ a b c d e,T.builtins _ λq=> ?_⟩;exact absurd (show "__name__"∈bltNames from ofString_inj q▸hx)<|by decide
 ·have V:gl.lookup x=Ja q:=U;have O:(x,q)∈gl:=by
   clear J Y Q U
   induction gl with
   |nil=>simp at V
   |cons a r A=>
    obtain⟨y,j⟩:=a;by_cases e:x=y
    ·subst e;simp at V;subst V;exact Wb
    ·rw[Yp,beq_eq_false_iff_ne.mpr e] at V;exact Kz _<|A V
  have:=Qx.mp J _ O
  induction E:valOf p (Qb x) with
  |none=>rw[E] at this;exact ft this
  |some d=>
   rw[E] at this;obtain⟨v,L,e2⟩:=T.const _ _ E;refine⟨v,L,λσ h=> ?_⟩;have s:=e2 h
   induction d using PyData.casesOn with
   |int j=>induction q using PV.casesOn with
    |int i=>
     have e:j=i:=Y9 this;subst e;cases s;exact⟨_,rfl⟩
    |_=>exact ft this
   |str j=>induction q using PV.casesOn with
    |str i=>
     have e:j=Qb i:=Y9 this;subst e;cases s;exact⟨_,rfl⟩
    |_=>exact ft this
   |_=>exact ft this
 ·show mg _=_;replace W:(if tab.any (·.f==f) then mg (Qb f) else fvC K k f)=Ja v:=W;by_cases q:tab.any (·.f==f)=Jc
  ·rw[Y8 q] at W;exact W
  ·rw[Y7 q] at W
   rcases rx l W with⟨c,a,h,D,S,rfl,rfl⟩|⟨c,a,m,t,h,D,S,H,e,P,o0⟩
   ·exact mV X T.g D
   ·exact tf<|I.symm.trans P
 ·by_cases q:tab.any (·.f==f)=Jc
  ·obtain⟨t,H,e⟩:=Ki.mp q;have e:t.f=f:=by simpa using e
   subst e;obtain⟨a,o,fd,M,F,L⟩:=xK (prog:=prog) (w:=w) (tab:=tab) (K:=K) (k:=k) T H<|Qx.mp Y t H;exact⟨.ref a,F.fv,F.kp⟩
  ·have W:k.cl.any (λc=>f==c.nm||c.ms.any (·.f==f))=Jc:=(Wv.mp W).resolve_left q;have G:∀v,fvC K k f=Ja v->(cxE prog w B mg tab K k).fv f=Ja v:=λv e=>(Y7 q).trans e;obtain⟨c,Z,W⟩:=Ki.mp W;obtain⟨a,D,S⟩:=l c Z;obtain⟨fI,N,F,ga,gh,R,fl,g,ne,pn,aa⟩:=id S
   rcases Wv.mp W with z|z
   ·obtain rfl:=Y9 z;exact⟨.ref a,G _<|qg l Z D S,NewAt.kp (C:=cxE prog w B mg tab K k) N⟩
   ·obtain⟨t,H,e⟩:=Ki.mp z;have e:t.f=f:=Y9 e;subst e;obtain⟨m,p,u,n,e,ty,F⟩:=g t H;exact⟨.ref m,G _<|uB l Z D S H p u e,xX (C:=cxE prog w B mg tab K k) F⟩
end
section
variable{prog p:Jn}{w:Jm}{B:Ji}{mg mb:Jq->Option Jf}{loose:List Jq}{mean:ExcName->Option Jf}{gl:List (String×PV)}{tab:List Fn}{K:Frag}{k:Kinds}
theorem kQ(h:j4 K k=Jc)(C:k.cs.contains c=Jc):∃a,A3 (bZ K c=Ja a) (∀f∈k.flds c,findIn K (.ref a) (Qb f)=Ja Jb) (∀d b,k.cs.contains d=Jc->bZ K d=Ja b->exmOne K (.ref a) (.ref b)=Ja (k.sub c d)):=by
 have N:=Qx.mp h c (by simpa using C);unfold s7 at N
 induction e:bZ K c with
 |none=>rw[e] at N;exact ft N
 |some a=>
  rw[e] at N;obtain⟨W,O⟩:=and2 N;refine⟨a,rfl,λf j=>beq_iff_eq.mp<|Qx.mp W f j,λd b v R=> ?_⟩;have n:=Qx.mp O d (by simpa using v);rw[R] at n;exact beq_iff_eq.mp n
theorem Ap(T:Top p loose mean mg mb B)(X:K.In B)(h:j4 K k=Jc)(i:∀c∈k.inis,k.cs.contains c=Jc/\∃a,bZ K c=Ja a/\IniAt B K a (k.flds c))(hp:qp p loose k=Jc)(g:∀c∈k.cl,∃a,bZ K c.nm=Ja a/\ClsAt B K c a)(j:∀c∈k.cl,k.flds c.nm=c.fs)(y:∀f,tab.any (·.f==f)=Jc->bN f=Jc):ExcOK (cxE prog w B mg tab K k) (gxE gl tab k) mg mb:=by
 obtain⟨o,aa,ab⟩:=and3 hp;have l:∀ {c:String} {a:Jg},(cxE prog w B mg tab K k).cls c=Ja a->k.cs.contains c=Jc/\bZ K c=Ja a:=λ{c a} e=>by
  have e:(if k.cs.contains c then bZ K c else Jb)=Ja a:=e;by_cases q:k.cs.contains c=Jc
  ·rw[Y8 q] at e;exact⟨q,e⟩
  ·exact ns<|(Y7 q).symm.trans e
 have s:∀c,k.cs.contains c=Jc->∃a,(cxE prog w B mg tab K k).cls c=Ja a:=λc C=>by
  obtain⟨a,e,o0⟩:=kQ h C;exact⟨a,(Y8 C).trans e⟩
 refine⟨X,λc a e=>mV X T.g (l e).2,s,λc C=> ?_,λc a d b L R=> ?_,λc=>rfl,λc C=> ?_,λc a f e W=> ?_,λc C=> ?_,λc a e M=> ?_,λu a e=> ?_⟩
 ·have C:k.mks.contains c=Jc:=C;exact s c (and3<|Qx.mp o c (by simpa using C)).1
 ·obtain⟨U,G⟩:=l L;obtain⟨q3,q4⟩:=l R;obtain⟨E,P,o0,A⟩:=kQ h U;obtain rfl:=sj<|G.symm.trans P;exact A d b q3 q4
 ·have C:k.mks.contains c=Jc:=C;exact List.isEmpty_iff.mp (and3<|Qx.mp o c (by simpa using C)).2.2
 ·obtain⟨U,G⟩:=l e;obtain⟨E,P,A,o0⟩:=kQ h U;obtain rfl:=sj<|G.symm.trans P;exact A f W
 ·have C:k.inis.contains c=Jc:=C;obtain⟨h1,a,h2,h3⟩:=i c (by simpa using C);exact⟨a,(Y8 h1).trans h2,h3⟩
 ·have M:k.mks.contains c=Jc:=M;have hs:=beq_iff_eq.mp (and3<|Qx.mp o c (by simpa using M)).2.1;obtain⟨C',O,o0⟩:=T.ownAt hs;have L:=mV X T.g (l e).2;have R:=O.bound;rw[L] at R;cases R;exact O.own
 ·have e:(if k.cl.any (·.nm==u) then bZ K u else Jb)=Ja a:=e;by_cases z:k.cl.any (·.nm==u)=Jc
  rotate_left
  ·exact ns<|(Y7 z).symm.trans e
  have I:bZ K u=Ja a:=(Y8 z).symm.trans e;obtain⟨c,C,z⟩:=Ki.mp z;obtain rfl:=Y9 z;obtain⟨E,Y,S⟩:=g c C;obtain rfl:=sj<|I.symm.trans Y;obtain⟨fI,N,F,ga,gh,J,fl,ms,ne,pn,ac⟩:=S;refine⟨ga,gh,J,λf W=>fl f<|j c C▸W,λf v Z H hv=> ?_⟩;have hv:(if tab.any (·.f==f) then mg (Qb f) else fvC K k f)=Ja v:=hv;by_cases q:tab.any (·.f==f)=Jc
  ·exact tf<|(y f q).symm.trans Z
  ·rw[Y7 q] at hv
   rcases rx g hv with⟨Q,D,h,V,S,rfl,rfl⟩|⟨Q,D,m,t,h,V,S,ht,e,pp,cn,n,q,ty,F,rfl⟩
   ·exact tf<|S.pn'.symm.trans Z
   ·have r:Q.nm=c.nm:=cn.symm.trans H;have ef:Q.fs=c.fs:=(j Q h).symm.trans ((Ub k.flds r).trans (j c C));rw[r] at V;obtain rfl:=sj<|I.symm.trans V;exact⟨m,rfl,q,ty,λx hx z=>n<|ef▸ofString_inj z▸(j c C▸hx:x∈c.fs)⟩
end
end
section
set_option backward.match.sparseCases true
open PySem.W PyProof.Rows
theorem lO:∀ {xs:List WData},WShape.hasItems [] xs .int=Jc->∃ns:List Int,xs=ns.map .int
 |[]=>λo0=>⟨[],rfl⟩
 |x::xs=>λh=>by
  have h:(WShape.has [] x .int&&WShape.hasItems [] xs .int)=Jc:=h;obtain⟨N,p⟩:=Qh.mp h;obtain⟨ns,rfl⟩:=lO p;have:∃i,x= .int i:=by
   exact hasW_int N
  obtain⟨i,rfl⟩:=this;exact⟨i::ns,rfl⟩
theorem sK:WShape.has [] (.bool Jc) .bool=Jc:=by decide+kernel
theorem rI:WTm.holds [] (.eq .res (.lit (.bool Jc))) {args:=a,res:=Ja (.bool Jc),after:=b}=Jc:=by
 have h:W.same (.bool Jc) (.bool Jc)=Jc:=by decide+kernel
 show(match Ja (WData.bool (W.same (.bool Jc) (.bool Jc))) with
  |some (.bool Jc)=>Jc
  |_=>Jd)=Jc
 rw[h]
theorem yo{xs:List WData}(h:63<xs.length):WTm.holds [] (.and (.not (.lt (.lit (.int (63:Nat))) (.len (.arg 0)))) (.lit (.bool Jc))) {args:=[.list xs]}=Jd:=by
 have e:less? (.int (63:Nat)) (.int (xs.length:Nat))=Ja Jc:=by simp[less?,Num.less?];exact Kf.mpr h
 have v:WTm.value [] (.lt (.lit<|.int (63:Nat))<|.len (.arg 0)) {args:=[.list xs]}=Ja (.bool Jc):=Ub (Wn WData.bool) e;have n:WTm.value [] (.not<|.lt (.lit<|.int (63:Nat)) (.len<|.arg 0)) {args:=[.list xs]}=Ja (.bool Jd):=by
  show(match WTm.value [] (.lt (.lit (.int (63:Nat))) (.len (.arg 0))) {args:=[.list xs]} with
   |some (.bool b)=>Ja<|WData.bool (!b)
   |_=>Jb)=_
  rw[v];rfl
 have M:WTm.value [] (.and (.not<|.lt (.lit<|.int (63:Nat)) (.len<|.arg 0))<|.lit (.bool Jc)) {args:=[.list xs]}=Ja (.bool Jd):=by
  show(match WTm.value [] (.not (.lt (.lit (.int (63:Nat))) (.len (.arg 0)))) {args:=[.list xs]} with
   |some (.bool Jd)=>Ja<|WData.bool Jd
   |some (.bool Jc)=>(match WTm.value [] (.lit (.bool Jc)) {args:=[.list xs]} with
    |some (.bool x)=>Ja<|.bool x
    |_=>Jb)
   |_=>Jb)=_
  rw[n]
 unfold WTm.holds;rw[M]
theorem ur{l:OpenLaw}(m:l.most=Ja 63)(b:l.bound=Jb){args:List WData}(h:l.row.toRowW.claim.pre args=Jc):∃ns:List Int,args=[.list (ns.map .int)]/\ns.length<=63:=by
 have h:(WShape.hasAll [] args [.list .int]&&(OpenLaw.pre l).holds [] {args:=args})=Jc:=h;simp only[QW] at h;obtain⟨N,p⟩:=h
 match args,N with
 |[x],N=>
  have hx:∃s,x= .list s/\WShape.hasItems [] s .int=Jc:=by
   have N:(WShape.has [] x (.list .int)&&WShape.hasAll [] [] [])=Jc:=N;have N:=(Qh.mp N).1;exact hasW_list N
  obtain⟨s,rfl,hx⟩:=hx;obtain⟨ns,rfl⟩:=lO hx;refine⟨ns,rfl,?_⟩;unfold OpenLaw.pre at p;rw[m,b] at p;by_cases T:ns.length<=63
  ·exact T
  ·rw[yo (by rw[Qd];exact Nat.not_le.mp T)] at p;exact ft p
 |[],N=>exact absurd N QF
 |x::y::r,N=>
  have N:(WShape.has [] x (.list .int)&&WShape.hasAll [] (y::r) [])=Jc:=N;exact absurd (Qh.mp N).2 QF
theorem lb{c:Jq->Option Jg}:∀ {ns:List Int} {vs:List Jf} {as:List Jg},ReadsAllW [] c h vs (ns.map .int) as->vs.length=ns.length/\∀ (i:Nat) (k:Int),ns[i]? =Ja k->∃t,vs[i]? =Ja (Value.int k t)
 |[]=>λr=>by cases r;exact⟨rfl,λi k e=>by simp at e⟩
 |n::ns=>λr=>by
  cases r with
  |cons f M=>
   cases f;obtain⟨a,b⟩:=lb M;refine⟨by simp[a],λi k e=> ?_⟩
   induction i using Nat.casesOn with
   |zero=>simp at e;subst e;exact⟨_,rfl⟩
   |succ j=>simpa using b j k (by simpa using e)
noncomputable def noPH:PH:=λo0=>Jb
inductive ClsC(C:Cx)(c:Cls):Prop
 |mk (a:Jg) (icl:C.icl c.nm=Ja a) (fv:C.fv c.nm=Ja (.ref a)) (S:ClsAt C.B C.K c a) (fl:C.flds c.nm=c.fs) (ms:∀t∈c.ms,X4 λa o fd body=>FnAt C t.f t.ps t.b a o fd body):ClsC C c
theorem AR{prog:Jn}{w:Jm}{B:Ji}{g:Jq->Option Jf}{tab:List Fn}{K:Frag}{k:Kinds}{c:Cls}(Z:c∈k.cl)(h:∀c∈k.cl,∃a,bZ K c.nm=Ja a/\ClsAt B K c a)(j:∀c∈k.cl,k.flds c.nm=c.fs)(l:∀f,tab.any (·.f==f)=Jc->bN f=Jc)(Y:∀c∈k.cl,tab.any (·.f==c.nm)=Jd):ClsC (cxE prog w B g tab K k) c:=by
 obtain⟨a,T,S⟩:=h c Z;refine⟨a,?_,?_,S,j c Z,λt W=> ?_⟩
 ·show(if k.cl.any (·.nm==c.nm) then bZ K c.nm else Jb)=_;rw[Y8 (Ki.mpr ⟨c,Z,beq_self_eq_true c.nm⟩)];exact T
 ·show(if tab.any (·.f==c.nm) then g (Qb c.nm) else fvC K k c.nm)=_;rw[Y7 (by rw[Y c Z];exact QF)];exact qg h Z T S
 ·obtain⟨m,p,G,n,e,y,F⟩:=S.me W;obtain⟨o,d,b,I,V,L⟩:=id F;refine⟨m,o,d,b,I,?_,xX (C:=cxE prog w B g tab K k) F,L⟩;show(if tab.any (·.f==t.f) then g (Qb t.f) else fvC K k t.f)=_;rw[Y7 (λq=>QF<|p.symm.trans (l _ q))];exact uB h Z T S W p G e
set_option tactic.hygienic true in
theorem law_walk{l:OpenLaw}{XP:(Jq->Option Jf)->Ji->Prop}{d:DefRec}{E:List (Jq×Jl)}(R:List (String×PV))(tab:List Fn)(k:Kinds)
  (hm:l.most=Ja 63)(hb:l.bound=Jb)(hn:d.name=Qb "law")(h:topOK q (looseW q loose) R tab=Jc)(Q:qp q (looseW q loose) k=Jc)(u:tab.any (·.f=="law")=Jc)(hN:N<=300)(j:∀c∈k.cl,k.flds c.nm=c.fs)(O:∀c∈k.cl,tab.any (·.f==c.nm)=Jd)
  (r:∀ (C:Cx) (g D:Jq->Option Jf),GOK C (gxE R tab k) g D->ExcOK C (gxE R tab k) g D->C.ok->(∀t∈tab,X4 λa o S body=>FnAt C t.f t.ps t.b a o S body)->(∀c∈k.cl,ClsC C c)->∀ns:List Int,ns.length<=63->aO C N "law" [.scr ns] noPH (λv o0=>v= .bool Jc) λo0 o0=>False):
  WalkO q loose XP (Hook.says<|hookE k) l.row.toRowW d E λf vs=>PySem.call f vs:=by
 intro w aa s g D G Y fa o pm cd ae dV kV ho hd ad hD Z hg args P as L ab V ah aj;refine Ground.open G λT o0 o0 o0 o0=> ?_;obtain⟨K,z,J,H,B⟩:=Y;have y:∀f,tab.any (·.f==f)=Jc->bN f=Jc:=λf hf=>by
  unfold topOK at h;simp only[QW] at h;exact rX h.1.1 hf
 obtain⟨ns,rfl,A⟩:=ur hm hb L;have hG:GOK (cxE l.row.toRowW.prog w s.heap g tab K k) (gxE R tab k) g D:=zW T z B h;have hF:∀t∈tab,X4 λa o S body=>FnAt (cxE l.row.toRowW.prog w s.heap g tab K k) t.f t.ps t.b a o S body:=λt W=>by
  unfold topOK at h;simp only[QW] at h;obtain⟨a,o,S,body,F,o0⟩:=xK (prog:=l.row.toRowW.prog) (w:=w) (tab:=tab) (K:=K) (k:=k) T W<|Qx.mp h.1.1 t W;exact⟨a,o,S,body,F⟩
 obtain⟨v,hv,o0,U⟩:=r _ g D hG (Ap T z J H Q B j y) trivial hF (λc hc=>AR hc B j y O) ns A;have hv:g (Qb "law")=Ja v:=by
  simp only[cxE] at hv;rw[Y8 u] at hv;exact hv
 rw[hn] at Z;obtain rfl:=sj<|Z.symm.trans hv;cases V with
 |cons r1 r2=>
  cases r2;cases r1 with
  |list e1 e2 e3 e4=>
   rename_i M o' vs n ac
   obtain⟨e5,e6⟩:=lb e4;have m:Sim (cxE l.row.toRowW.prog w s.heap g tab K k) noPH s.heap:=⟨λb o e=>e,λa o e=>by simp[noPH] at e,λa o e=>by simp[noPH] at e,λa o e=>by simp[noPH] at e⟩
   have ak:AOK (cxE l.row.toRowW.prog w s.heap g tab K k) N callerA [] noPH s.heap:=by
    refine⟨?_,?_,rfl,λen he=>by simp at he,λo0=>rfl⟩
    ·show 1+claimMargin+N+2<J1;unfold claimMargin J1;exact zl (Kk (KI hN _) 2)<|by decide
    ·show 4+30*N+300<cLine;unfold cLine;exact zl (Kk (KI (WQ 30 hN) 4) 300)<|by decide
   have I:VRs (cxE l.row.toRowW.prog w s.heap g tab K k) noPH s.heap [.scr ns] [.ref M]:=by
    refine⟨_,_,rfl,⟨M,o',n,vs,rfl,e1,e2,e3,by simpa using e5,λi k e=> ?_⟩,rfl⟩;obtain⟨t,W⟩:=e6 i k e;exact⟨t,by simpa using W⟩
   refine YF (U callerA [] s [.ref M] ak m I) (λv s' hv=> ?_) λo0 o0 x=>Vl.Internal.XP.none x;obtain⟨p,af,X,h2,h3,h4,rfl⟩:=hv;change _=_ at X;subst X;refine GoodW.toG ⟨.inl ⟨.bool Jc,.bool Jc,[],rfl,λai=>rfl,.bool Jc,?_,λo0=>⟨List.nodup_nil,λa ha=>by cases ha⟩⟩,λb o e=>h2.base b o e,h4.2,h4.1.trans hg⟩;show(WShape.has [] (.bool Jc) .bool&&WTm.holds [] (.eq .res<|.lit (.bool Jc)) _)=Jc;rw[sK,rI];rfl
end
set_option genCtorIdx false in
inductive D where
 |none
 |bool(b:Bool)
 |int(i:Int)
 |str(s:String)
 |tup(l:List D)
 |list(l:List D)
 |scr(l:List Int)
 |hole
 |dict(ks:List (List KA))(l:List D)
 |inst(c:String)(l:List D)
noncomputable abbrev D.ctorIdx(x:D):Nat:=D.casesOn x 0 (λo0=>1) (λo0=>2) (λo0=>3) (λo0=>4) (λo0=>5) (λo0=>6) 7 (λo0 o0=>8) (λo0 o0=>9)
mutual
noncomputable def D.atom:D->Bool
 | .tup l=>D.atoms l
 | .list _=>Jd
 | .inst _ l=>D.atoms l
 | .dict _ _=>Jd
 |_=>Jc
noncomputable def D.atoms:List D->Bool
 |[]=>Jc
 |d::ds=>D.atom d&&D.atoms ds
end
mutual
noncomputable def RdF(σ:PH):D->PV->List Jg->Prop
 | .none,v,F=>v= .none/\F=[]
 | .bool b,v,F=>v= .bool b/\F=[]
 | .int i,v,F=>v= .int i/\F=[]
 | .str s,v,F=>v= .str s/\F=[]
 | .scr l,v,F=>(v= .scr l/\l.length<=lim)/\F=[]
 | .hole,_,F=>F=[]
 | .inst c ds,v,F=>X3 λa d l=>A4 (v= .ref a) (σ a=Ja (.inst d)) (σ d=Ja (.fd c l))<|RdFs σ ds l F
 | .dict ks ds,v,F=>X3 λa l G=>A5 (v= .ref a) (σ a=Ja (.dict ks l)) ((l.length<=lim/\ks.length=l.length)) (F=a::G)<|RdFs σ ds l G
 | .tup ds,v,F=>∃l,v= .tup l/\l.length<=lim/\RdFs σ ds l F
 | .list ds,v,F=>X3 λa l G=>A5 (v= .ref a) (σ a=Ja (.list l)) (l.length<=lim) (F=a::G)<|RdFs σ ds l G
noncomputable def RdFs(σ:PH):List D->List PV->List Jg->Prop
 |[],l,F=>l=[]/\F=[]
 |d::ds,l,F=>X4 λp ps j N=>A4 (l=p::ps) (F=j++N) (RdF σ d p j)<|RdFs σ ds ps N
end
noncomputable abbrev MO:={o:PO // o.fixed=Jd}
def Ext(σ σ':PH):Prop:=∀a o,σ a=Ja o->σ' a=Ja o
theorem Ext.refl(σ:PH):Ext σ σ:=λo0 o0 h=>h
theorem Ext.trans(x:Ext a b)(y:Ext b c):Ext a c:=λp o h=>y p o<|x p o h
theorem Ext.set{σ:PH}(h:σ a=Jb)(o:PO):Ext σ (σ.set a o):=λb p e=>by
 rw[PH.set_ne]
 ·exact e
 ·rintro rfl;exact ns<|h.symm.trans e
structure Ag(F:List Jg)(σ σ':PH):Prop where
 at_:∀a∈F,σ' a=σ a
 oth:∀a o,σ a=Ja o->o.fixed=Jc->σ' a=Ja o
theorem Ag.left(x:Ag (F++G) σ σ'):Ag F σ σ':=⟨λa h=>x.at_ a (Qf _ h),x.oth⟩
theorem Ag.right(x:Ag (F++G) σ σ'):Ag G σ σ':=⟨λa h=>x.at_ a (Qe _ h),x.oth⟩
theorem Ag.tail(x:Ag (a::G) σ σ'):Ag G σ σ':=⟨λb h=>x.at_ b (.tail _ h),x.oth⟩
mutual
theorem RdF.ag:∀ {d:D} {v:PV} {F:List Jg},RdF σ d v F->Ag F σ σ'->RdF σ' d v F
 | .none=>λr o0=>r
 | .bool _=>λr o0=>r
 | .int _=>λr o0=>r
 | .str _=>λr o0=>r
 | .scr _=>λr o0=>r
 | .hole=>λr o0=>r
 | .inst _ _=>λN x=>by obtain⟨a,d,l,E,Y,J,h⟩:=N;exact⟨a,d,l,E,x.oth a _ Y rfl,x.oth d _ J rfl,RdFs.ag h x⟩
 | .dict _ _=>λN x=>by obtain⟨a,l,G,E,Y,J,h,B⟩:=N;exact⟨a,l,G,E,(x.at_ a<|h▸ .head _).trans Y,J,h,RdFs.ag B (h▸x).tail⟩
 | .tup _=>λN x=>by obtain⟨l,E,Y,J⟩:=N;exact⟨l,E,Y,RdFs.ag J x⟩
 | .list _=>λN x=>by obtain⟨a,l,G,E,Y,J,h,B⟩:=N;exact⟨a,l,G,E,(x.at_ a<|h▸ .head _).trans Y,J,h,RdFs.ag B (h▸x).tail⟩
theorem RdFs.ag:∀ {ds:List D} {l:List PV} {F:List Jg},RdFs σ ds l F->Ag F σ σ'->RdFs σ' ds l F
 |[]=>λr o0=>r
 |_::_=>λN x=>by obtain⟨p,ps,j,q,E,Y,J,h⟩:=N;exact⟨p,ps,j,q,E,Y,RdF.ag J (Y▸x).left,RdFs.ag h (Y▸x).right⟩
end
mutual
theorem RdF.dom:∀ {d:D} {v:PV} {F:List Jg},RdF σ d v F->∀a∈F,∃l:MO,σ a=Ja l.1
 | .none=>λr a h=>by rw[r.2] at h;cases h
 | .bool _=>λr a h=>by rw[r.2] at h;cases h
 | .int _=>λr a h=>by rw[r.2] at h;cases h
 | .str _=>λr a h=>by rw[r.2] at h;cases h
 | .scr _=>λr a h=>by rw[r.2] at h;cases h
 | .hole=>λr a h=>by rw[show _=[] from r] at h;cases h
 | .inst _ _=>λN a h=>by obtain⟨o0,o0,l,E,Y,J,w⟩:=N;exact RdFs.dom w a h
 | .dict _ _=>λN a h=>by
  obtain⟨b,l,G,E,Y,J,w,B⟩:=N;rw[w] at h;cases h with
  |head=>exact⟨⟨_,rfl⟩,Y⟩
  |tail _ h=>exact RdFs.dom B a h
 | .tup _=>λN a h=>by obtain⟨l,E,Y,J⟩:=N;exact RdFs.dom J a h
 | .list _=>λN a h=>by
  obtain⟨b,l,G,E,Y,J,w,B⟩:=N;rw[w] at h;cases h with
  |head=>exact⟨⟨_,rfl⟩,Y⟩
  |tail _ h=>exact RdFs.dom B a h
theorem RdFs.dom:∀ {ds:List D} {l:List PV} {F:List Jg},RdFs σ ds l F->∀a∈F,∃l:MO,σ a=Ja l.1
 |[]=>λr a h=>by rw[r.2] at h;cases h
 |_::_=>λN a h=>by
  obtain⟨p,ps,j,q,E,Y,J,w⟩:=N;rw[Y] at h
  rcases Qn.mp h with h|h
  ·exact RdF.dom J a h
  ·exact RdFs.dom w a h
end
theorem Ag.of_ext(x:Ext σ σ')(h:∀a∈F,∃l:MO,σ a=Ja l.1):Ag F σ σ':=⟨λa T=>by obtain⟨l,e⟩:=h a T;exact(x a _ e).trans e.symm,λa o0 e o0=>x a _ e⟩
theorem RdF.ext{d:D}(r:RdF σ d v F)(x:Ext σ σ'):RdF σ' d v F:=r.ag<|.of_ext x r.dom
theorem RdFs.ext{d:List D}(r:RdFs σ d v F)(x:Ext σ σ'):RdFs σ' d v F:=r.ag<|.of_ext x r.dom
mutual
theorem RdF.atom:∀ {d:D} {v:PV} {F:List Jg},RdF σ d v F->d.atom=Jc->F=[]
 | .none=>λr o0=>r.2
 | .bool _=>λr o0=>r.2
 | .int _=>λr o0=>r.2
 | .str _=>λr o0=>r.2
 | .scr _=>λr o0=>r.2
 | .hole=>λr o0=>r
 | .inst _ _=>λN h=>by obtain⟨o0,o0,l,E,Y,J,w⟩:=N;exact RdFs.atom w h
 | .dict _ _=>λo0 h=>ft h
 | .tup _=>λN h=>by obtain⟨l,E,Y,J⟩:=N;exact RdFs.atom J h
 | .list _=>λo0 h=>ft h
theorem RdFs.atom:∀ {d:List D} {v:List PV} {F:List Jg},RdFs σ d v F->D.atoms d=Jc->F=[]
 |[]=>λr o0=>r.2
 |_::_=>λN h=>by
  obtain⟨p,ps,j,q,E,Y,J,w⟩:=N;obtain⟨a,b⟩:=Qh.mp h;rw[Y,RdF.atom J a,RdFs.atom w b];rfl
end
abbrev Tag:=Option<|List String
noncomputable def tj:Tag->Tag->Tag
 |none,t=>t
 |some a,Jb=>Ja a
 |some a,Ja b=>Ja<|a++b
noncomputable def tg0(d:D)(t:Tag):Tag:=cond d.atom Jb t
def tgl(l:List D)(t:Tag):Tag:=cond (D.atoms l) Jb t
noncomputable def tjs:List (D×Tag)->Tag
 |[]=>Jb
 |p::r=>tj p.2<|tjs r
noncomputable abbrev fsts(l:List (D×Tag)):List D:=l.map (·.1)
noncomputable abbrev flags(l:List (D×Tag)):List (D×Bool):=l.map λp=>(p.1,p.2.isNone)
abbrev DRho:=List<|String×Option (D×Bool)
noncomputable def DRho.get:DRho->String->Option (D×Bool)
 |[],_=>Option.none
 |(y,v)::r,x=>cond (y==x) v<|DRho.get r x
noncomputable def DRho.put:DRho->String->D×Bool->DRho
 |[],_,_=>[]
 |(y,o)::r,x,v=>cond (y==x) ((y,Ja v)::r) ((y,o)::DRho.put r x v)
theorem DRho.get_if(y:String)(v:Option (D×Bool))(r:DRho)(x:String):DRho.get ((y,v)::r) x=if y=x then v else DRho.get r x:=by
 show cond (y==x) _ _=_;by_cases h:y=x
 ·rw[Y8 h,beq_iff_eq.mpr h];rfl
 ·rw[Y7 h,beq_eq_false_iff_ne.mpr h];rfl
theorem DRho.put_if(y:String)(o:Option (D×Bool))(r:DRho)(x:String)(v:D×Bool):DRho.put ((y,o)::r) x v=if y=x then(y,Ja v)::r else(y,o)::DRho.put r x v:=by
 show cond (y==x) _ _=_;by_cases h:y=x
 ·rw[Y8 h,beq_iff_eq.mpr h];rfl
 ·rw[Y7 h,beq_eq_false_iff_ne.mpr h];rfl
noncomputable def hasS:List String->String->Bool
 |[],_=>Jd
 |y::r,x=>y==x||hasS r x
theorem mQ(x:String):∀xs:List String,hasS xs x=xs.contains x
 |[]=>rfl
 |y::r=>by rw[Wa,<-mQ x r,Bool.beq_comm];rfl
noncomputable def DRho.puts:DRho->List String->List D->Bool->DRho
 |L,x::P,v::s,b=>DRho.puts (L.put x (v,b)) P s b
 |L,_,_,_=>L
def DRho.frz(L:DRho):Tag->DRho
 |Option.none=>L
 |some x=>L.map λp=>(p.1,cond (hasS x p.1) (p.2.map λq=>(q.1,q.1.atom&&q.2)) p.2)
noncomputable def Nb(x:String)(b:Bool)(v:D)(r:DRho):DRho:=(x,Ja (v,b))::r
noncomputable def No(x:String)(o:Option (D×Bool))(r:DRho):DRho:=(x,o)::r
abbrev DQ:=D->Tag->Prop
abbrev DX:=String->List D->Prop
structure DCl where
 c:String->List (D×Bool)->(D->Bool->Prop)->DX->Prop
 io:String->Nat->List (D×Bool)->(D->Prop)->Prop
instance:CoeFun DCl λo0=>String->List (D×Bool)->(D->Bool->Prop)->DX->Prop:=⟨DCl.c⟩
def dnew(l:List D)(t:Tag)(Q:DQ):Prop:=l.length<=lim/\Q (.list l) t
def dtup(l:List D)(t:Tag)(Q:DQ):Prop:=l.length<=lim/\Q (.tup l) t
noncomputable def dInt(K:Int->Prop):D->Prop
 | .int x=>K x
 |_=>False
noncomputable def dBool(K:Bool->Prop):D->Prop
 | .bool x=>K x
 |_=>False
noncomputable def dDct(K:List (List KA)->List D->Prop):D->Prop
 | .dict k l=>K k l
 |_=>False
inductive WitDD(K:List (List KA)->List D->Prop)(v:D):Prop
 |mk (ks:List (List KA)) (l:List D) (e:v= .dict ks l) (k:K ks l):WitDD K v
theorem oW{K:List (List KA)->List D->Prop}(h:dDct K v):WitDD K v:=by
 induction v using D.casesOn with
 |dict k l=>exact⟨k,l,rfl,h⟩
 |_=>exact h.elim
noncomputable def dLst(K:List D->Prop):D->Prop
 | .list x=>K x
 |_=>False
theorem eS{K:Int->Prop}(h:dInt K v):Wit D.int v K:=by
 induction v using D.casesOn with
 |int x=>exact⟨x,rfl,h⟩
 |_=>exact h.elim
theorem eH{K:Bool->Prop}(h:dBool K v):Wit D.bool v K:=by
 induction v using D.casesOn with
 |bool x=>exact⟨x,rfl,h⟩
 |_=>exact h.elim
theorem fy{K:List D->Prop}(h:dLst K v):Wit D.list v K:=by
 induction v using D.casesOn with
 |list x=>exact⟨x,rfl,h⟩
 |_=>exact h.elim
def dadd(a b:D)(t l:Tag)(Q:DQ):Prop:=
 match a with
 | .int x=>dInt (λy=>Q (.int (x+y)) Jb) b
 | .list x=>dLst (λy=>dnew (x++y) (tgl (x++y) (tj t l)) Q) b
 |_=>False
def dbin(o:BOp)(a b:D)(t l:Tag)(Q:DQ):Prop:=
 match o with
 | .add=>dadd a b t l Q
 | .sub=>dInt (λx=>dInt (λy=>Q (.int (x-y)) Jb) b) a
 | .mul=>dInt (λx=>dInt (λy=>(x.natAbs<2^64\/y.natAbs<2^64)/\Q (.int (x*y)) Jb) b) a
 | .fdiv=>dInt (λx=>dInt (λy=>y≠0/\y.natAbs<1073741824/\Q (.int (x.fdiv y)) Jb) b) a
 | .mod=>dInt (λx=>dInt (λy=>y≠0/\Q (.int (x.fmod y)) Jb) b) a
 | .pow _=>dInt (λx=>dInt (λy=>0<=y/\y<=1000/\x.natAbs<2^64/\Q (.int (x^y.toNat)) Jb) b) a
mutual
noncomputable def D.okd:Nat->D->Bool
 |_,.none=>Jc
 |_,.bool _=>Jc
 |_,.int _=>Jc
 |_,.str s=>PyData.strOk<|Qb s
 |n+1,.tup l=>D.okds n l
 |n+1,.list l=>D.okds n l
 |_,_=>Jd
noncomputable def D.okds:Nat->List D->Bool
 |_,[]=>Jc
 |n,d::ds=>D.okd n d&&D.okds n ds
end
mutual
noncomputable def D.py:D->YO
 | .none=> .none
 | .bool b=> .bool b
 | .int i=> .int i
 | .str s=> .str (Qb s)
 | .tup l=> .tuple (D.pys l)
 | .list l=> .list (D.pys l)
 |_=> .none
noncomputable def D.pys:List D->List YO
 |[]=>[]
 |d::ds=>D.py d::D.pys ds
end
noncomputable def D.eqv(a b:D):Bool:=PyData.eqv a.py b.py
def deq(a b:D)(Q:Bool->Prop):Prop:=(a.okd 40=Jc/\b.okd 40=Jc)/\Q (D.eqv a b)
noncomputable def kaD:D->Option KA
 | .int i=>Ja<|.n i
 | .str s=>Ja<|.t s
 |_=>Jb
noncomputable def kasD:List D->Option (List KA)
 |[]=>Ja []
 |p::r=>(kaD p).bind λk=>(kasD r).map (k:: ·)
def keyD:D->Option (List KA)
 | .tup l=>kasD l
 |_=>Jb
noncomputable def KA.d:KA->D
 | .n i=> .int i
 | .t s=> .str s
def keyDd(k:List KA):D:= .tup (k.map KA.d)
def dlook(ks:List (List KA))(l:List D)(k:List KA):Option D:=(kidx ks k).bind λj=>l[j]?
def dkset(ks:List (List KA))(l:List D)(k:List KA)(v:D):D:=match kidx ks k with
 |some j=> .dict ks (l.set j v)
 |none=> .dict (ks++[k]) (l++[v])
def din(a b:D)(Q:Bool->Prop):Prop:=match b with
 | .list l=>(a.okd 40=Jc/\D.okds 40 l=Jc)/\Q (l.any λd=>D.eqv d a)
 | .dict s _=>oK (λk=>Q (kidx s k).isSome) (keyD a)
 |_=>False
def drel(f:Int->Int->Bool)(a b:D)(Q:Bool->Prop):Prop:=dInt (λx=>dInt (λy=>Q (f x y)) b) a
def dcmp(o:COp)(a b:D)(Q:Bool->Prop):Prop:=
 match o with
 | .eq=>deq a b Q
 | .ne=>deq a b λr=>Q<|!r
 | .in_=>din a b Q
 | .nin=>din a b λr=>Q<|!r
 | .lt=>drel (λx y=>decide (x<y)) a b Q
 | .le=>drel (λx y=>decide (x<=y)) a b Q
 | .gt _=>drel (λx y=>decide (x>y)) a b Q
 | .ge=>drel (λx y=>decide (x>=y)) a b Q
noncomputable def dlen:D->Option Nat
 | .list l=>Ja l.length
 | .tup l=>Ja l.length
 | .scr l=>Ja l.length
 |_=>Jb
def dsub:D->D->Option D
 | .list l,.int k=>(place l.length k).bind λj=>l[j]?
 | .tup l,.int k=>(place l.length k).bind λj=>l[j]?
 | .scr l,.int k=>((place l.length k).bind λj=>l[j]?).map .int
 | .dict s l,i=>(keyD i).bind λk=>dlook s l k
 |_,_=>Jb
noncomputable def dInts:List D->Option (List Int)
 |[]=>Ja []
 | .int i::r=>(dInts r).map (i:: ·)
 |_=>Jb
noncomputable def gC:List D->Option (List Bool)
 |[]=>Ja []
 | .bool i::r=>(gC r).map (i:: ·)
 |_=>Jb
noncomputable def d1(K:D->Tag->Prop):List (D×Tag)->Prop
 |[(d,t)]=>K d t
 |_=>False
theorem zd{K:D->Tag->Prop}(h:d1 K l):∃d t,l=[(d,t)]/\K d t:=by
 rcases l with o0|⟨⟨d,t⟩,o0|⟨o0,o0⟩⟩<;>first|exact h.elim|exact⟨d,t,rfl,h⟩
noncomputable def dSeq(K:List D->Prop):D->Prop
 | .tup l=>K l
 | .list l=>K l
 |_=>False
def dList(Q:DQ)(t:Tag):D->Prop
 | .tup l=>Q (.list l)<|tgl l t
 | .list l=>Q (.list l)<|tgl l t
 | .dict s _=>(s.length<=lim/\∀k∈s,k.length<=lim)/\Q (.list<|s.map keyDd) Jb
 |_=>False
def dMin(Q:DQ)(args:List (D×Tag)):Prop:=d1 (λv o0=>dLst (λl=>oIs (λis=>is≠ []/\Q (.int (lmin is)) Jb) (dInts l)) v) args
def dbi(b:BI)(args:List (D×Tag))(Q:DQ):Prop:=
 match b with
 | .len=>d1 (λd o0=>oNat (λn=>Q (.int n) Jb) (dlen d)) args
 | .all=>d1 (λd o0=>dLst (λl=>oBs (λbs=>Q (.bool (bs.all id)) Jb) (gC l)) d) args
 | .any=>d1 (λd o0=>dLst (λl=>oBs (λbs=>Q (.bool (bs.any id)) Jb) (gC l)) d) args
 | .abs=>d1 (λd o0=>dInt (λx=>Q (.int (if x<0 then-x else x)) Jb) d) args
 | .sum=>d1 (λd o0=>dLst (λl=>oIs (λis=>Q (.int is.sum) Jb) (dInts l)) d) args
 | .int=>d1 (λd o0=>dBool (λx=>Q (.int (if x then 1 else 0)) Jb) d) args
 | .list=>d1 (λd t=>dList Q t d) args
 | .min=>dMin Q args
 | .sorted=>d1 (λd o0=>dLst (λl=>oIs (λis=>is.length<64/\∀js:List Int,js.Perm is->js.Pairwise (· <= ·)->Q (.list (js.map .int)) Jb) (dInts l)) d) args
 | .dict _=>d1 (λd o0=>dDct (λks l=>(ks≠ []/\(∀k∈ks,dQ k=Jc)/\D.atoms l=Jc)/\Q (.dict ks l) Jb) d) args
noncomputable def disi(G:Gx)(d:D)(t:List String):Option Bool:=
 match d with
 | .none=>Ja Jd
 | .str _=>Ja Jd
 | .bool _=>Ja (t.contains "bool"||t.contains "int")
 | .int _=>Ja<|t.contains "int"
 | .tup _=>Ja<|t.contains "tuple"
 | .list _=>Ja<|t.contains "list"
 |_=>Jb
noncomputable def dS1(K:D->Prop):List D->Prop
 |[v]=>K v
 |_=>False
noncomputable def dS2(K:D->D->Prop):List D->Prop
 |[v,w]=>K v w
 |_=>False
theorem qN{K:D->Prop}(h:dS1 K l):∃v,l=[v]/\K v:=by
 rcases l with o0|⟨v,o0|⟨o0,o0⟩⟩<;>first|exact h.elim|exact⟨v,rfl,h⟩
theorem vB{K:D->D->Prop}(h:dS2 K l):X2 λv w=>l=[v,w]/\K v w:=by
 rcases l with o0|⟨v,o0|⟨w,o0|⟨o0,o0⟩⟩⟩<;>first|exact h.elim|exact⟨v,w,rfl,h⟩
def dsrc(k:IK)(vs:List D)(K:List D->Prop):Prop:=
 match k with
 | .val=>dS1 (λv=>dSeq K v) vs
 | .range=>dS1 (λv=>dInt (λn=>(-1000000<n/\n<=1000000)/\K ((Qc n.toNat).map λ(i:Nat)=> .int i)) v) vs
 | .zip=>dS2 (λa b=>dLst (λl=>dLst (λm=>K ((l.zip m).map λp=> .tup [p.1,p.2])) b) a) vs
noncomputable def dK:Tg->D->Bool->DRho->Option DRho
 | .name x,v,b,L=>Ja<|L.put x (v,b)
 | .tup P,.tup s,b,L=>if s.length=P.length then Ja (L.puts P s b) else Jb
 |_,_,_,_=>Jb
noncomputable def hV(tg:Tg)(L:DRho):DRho:=(".0",Jb)::((tg.names.map λx=>(x,Jb))++L)
def bp(tg:Tg)(v:D)(L:DRho):Option DRho:=dK tg v Jd<|hV tg L
noncomputable def dOR(K:DRho->Prop):Option DRho->Prop
 |some v=>K v
 |none=>False
theorem fV{K:DRho->Prop}(h:dOR K o):Wit Ja o K:=by
 induction o with
 |none=>exact h.elim
 |some v=>exact⟨v,rfl,h⟩
noncomputable def dOD(K:D->Prop):Option D->Prop
 |some v=>K v
 |none=>False
theorem gS{K:D->Prop}(h:dOD K o):Wit Ja o K:=by
 induction o with
 |none=>exact h.elim
 |some v=>exact⟨v,rfl,h⟩
noncomputable def dOE(K:D×Bool->Prop):Option (D×Bool)->Prop
 |some v=>K v
 |none=>False
theorem eh{K:D×Bool->Prop}(h:dOE K o):Wit Ja o K:=by
 induction o with
 |none=>exact h.elim
 |some v=>exact⟨v,rfl,h⟩
noncomputable def iW:D->Bool
 | .hole=>Jc
 |_=>Jd
noncomputable def D.isNone:D->Bool
 | .none=>Jc
 |_=>Jd
noncomputable def dglob(Q:DQ):Option PV->Prop
 |some (.int i)=>Q (.int i) Jb
 |some (.str i)=>Q (.str i) Jb
 |_=>False
def tout(ns:List String)(t:Tag):Tag->Tag
 |none=>Jb
 |some s=>tj (Ja (s.filter λx=> !ns.contains x)) t
noncomputable def dcomp(tg:Tg)(L:DRho)(s:Tag)(tst:DRho->(Bool->Prop)->Prop)(el:DRho->DQ->Prop):List D->List D->Tag->(List D->Tag->Prop)->Prop
 |[],a,t,K=>K a t
 |x::w,a,t,K=>dOR (λP=>tst P λb=>cond b (el P λd u=>dcomp tg L s tst el w (a++[d]) (tj t (tout tg.names s u)) K) (dcomp tg L s tst el w a t K)) (bp tg x L)
def dget(t:Tag)(Q:DQ):Option D->Prop
 |some d=>Q d<|tg0 d t
 |none=>Q (.list []) Jb
noncomputable def dfld(G:Gx)(f:String):D->Option D
 | .inst c l=>((G.flds c).idxOf? f).bind λj=>l[j]?
 |_=>Jb
noncomputable def dIns(c:String):D->Prop
 | .inst Q _=>Q=c
 |_=>False
mutual
noncomputable def dwe(G:Gx)(cl:DCl):E->DRho->DQ->DX->Prop
 | .none,_,Q,_=>Q .none Jb
 | .bool b,_,Q,_=>Q (.bool b) Jb
 | .int i,_,Q,_=>Q (.int i) Jb
 | .str s,_,Q,_=>Q (.str s) Jb
 | .loc x,Δ,Q,_=>dOE (λp=>Q p.1 (tg0 p.1 (Ja [x]))) (Δ.get x)
 | .glob x,_,Q,_=>dglob Q<|G.glob x
 | .bin op a b,Δ,Q,X=>dwe G cl a Δ (λva ta=>dwe G cl b Δ (λvb tb=>dbin op va vb ta tb Q) X) X
 | .not_ a,Δ,Q,X=>dwe G cl a Δ (λv o0=>dBool (λb=>Q (.bool !b) Jb) v) X
 | .and_ a b,Δ,Q,X=>dwe G cl a Δ (λv o0=>dBool (λb'=>cond b' (dwe G cl b Δ Q X) (Q (.bool Jd) Jb)) v) X
 | .or_ a b,Δ,Q,X=>dwe G cl a Δ (λv o0=>dBool (λb'=>cond b' (Q (.bool Jc) Jb) (dwe G cl b Δ Q X)) v) X
 | .isNone a,Δ,Q,X=>dwe G cl a Δ (λv o0=>iW v=Jd/\Q (.bool v.isNone) Jb) X
 | .notNone a,Δ,Q,X=>dwe G cl a Δ (λv o0=>iW v=Jd/\Q (.bool !v.isNone) Jb) X
 | .cmp op a b,Δ,Q,X=>dwe G cl a Δ (λva o0=>dwe G cl b Δ (λvb o0=>dcmp op va vb λr=>Q (.bool r) Jb) X) X
 | .cmp2 a o1 b o2 c,Δ,Q,X=>dwe G cl a Δ (λva o0=>dwe G cl b Δ (λvb o0=>dcmp o1 va vb λr=>
   cond r (dwe G cl c Δ (λvc o0=>dcmp o2 vb vc λr=>Q (.bool r) Jb) X) (Q (.bool Jd) Jb)) X) X
 | .tup l,Δ,Q,X=>dwes G cl l Δ (λvs=>dtup (fsts vs) (tjs vs) Q) X
 | .list l,Δ,Q,X=>dwes G cl l Δ (λvs=>dnew (fsts vs) (tjs vs) Q) X
 | .sub a i,Δ,Q,X=>dwe G cl a Δ (λva ta=>dwe G cl i Δ (λvi o0=>dOD (λv=>Q v (tg0 v ta)) (dsub va vi)) X) X
 | .comp elt tg k it,Δ,Q,X=>G.calm=Jc/\dwes G cl it Δ (λvs=>dsrc k (fsts vs) λxs=>
   dcomp tg Δ (tjs vs) (λo0 K=>K Jc) (λΔ' K=>dwe G cl elt Δ' K λo0 o0=>False) xs [] Jb λacc t=>Q (.list acc) t) X
 | .compIf elt tg k it cond,Δ,Q,X=>G.calm=Jc/\dwes G cl it Δ (λvs=>dsrc k (fsts vs) λxs=>
   dcomp tg Δ (tjs vs) (λΔ' K=>dwe G cl cond Δ' (λv o0=>dBool K v) λo0 o0=>False) (λΔ' K=>dwe G cl elt Δ' K λo0 o0=>False) xs [] Jb λacc t=>Q (.list acc) t) X
 | .call f args,Δ,Q,X=>G.fn f=Jc/\dwes G cl args Δ (λvs=>cl f (flags vs) (λd b=>Q d (tg0 d (cond b Jb (tj (Ja []) (tjs vs))))) X) X
 | .bi b args,Δ,Q,X=>G.calm=Jc/\dwes G cl args Δ (λvs=>dbi b vs Q) X
 | .isi a ts,Δ,Q,X=>stat ts=Jc/\dwe G cl a Δ (λv o0=>oB (λb=>Q (.bool b) Jb) (disi G v ts)) X
 | .meth ..,_,_,_=>False
 | .dict0,_,Q,_=>G.full=Jc/\Q (.dict [] []) Jb
 | .get a k,Δ,Q,X=>dwe G cl a Δ (λva ta=>dDct (λks l=>dwe G cl k Δ (λvk o0=>oK (λk=>dget ta Q (dlook ks l k)) (keyD vk)) X) va) X
 | .sd ..,_,_,_=>False
 | .attr x f,Δ,Q,_=>dOE (λp=>dOD (λd=>Q d (tg0 d (Ja [x]))) (dfld G f p.1)) (Δ.get x)
 | .mcall c f o args,Δ,Q,X=>G.fn f=Jc/\dwe G cl o Δ (λdr tr=>dIns c dr/\dwes G cl args Δ (λvs=>cl f (flags ((dr,tr)::vs)) (λd b=>Q d (tg0 d (cond b Jb (tj (Ja []) (tjs ((dr,tr)::vs)))))) X) X) X
noncomputable def dwes(G:Gx)(cl:DCl):List E->DRho->(List (D×Tag)->Prop)->DX->Prop
 |[],_,Q,_=>Q []
 |e::es,Δ,Q,X=>dwe G cl e Δ (λv t=>dwes G cl es Δ (λvs=>Q ((v,t)::vs)) X) X
end
noncomputable abbrev Disj(F G:List Jg):Prop:=∀a∈F,a∉G
structure PartOK(σ:PH)(fp:String->List Jg)(t:Tag)(F:List Jg):Prop where
 own:t=Jb->F.Nodup/\∀a∈F,σ a=Jb
 al:∀xs,t=Ja xs->∀a∈F,σ a=Jb\/∃x∈xs,a∈fp x
structure ER(σ:PH)(fp:String->List Jg)(σ':PH)(d:D)(t:Tag)(v:PV)(F:List Jg):Prop where
 rd:RdF σ' d v F
 ext:Ext σ σ'
 part:PartOK σ fp t F
noncomputable def fset(f:String->List Jg)(x:String)(F:List Jg):String->List Jg:=λy=>if y=x then F else f y
theorem dm{f:String->List Jg}:fset f x F x=F:=Y8 rfl
theorem cr{f:String->List Jg}(h:y≠x):fset f x F y=f y:=Y7 h
structure EnvE(σ:PH)(Δ:DRho)(ρ:Rho)(fp:String->List Jg):Prop where
 at_:∀x d b,Δ.get x=Ja (d,b)->∃v,ρ.get x=Ja v/\RdF σ d v (fp x)
 dom:∀x,∀a∈fp x,∃l:MO,σ a=Ja l.1
 keys:Δ.map (·.1)=ρ.map (·.1)
theorem EnvE.ext{f:String->List Jg}(h:EnvE σ L A f)(x:Ext σ σ'):EnvE σ' L A f:=⟨λy d b e=>by obtain⟨v,N,p⟩:=h.at_ y d b e;exact⟨v,N,p.ext x⟩,λy a T=>by obtain⟨l,e⟩:=h.dom y a T;exact⟨l,x a _ e⟩,h.keys⟩
theorem Ext.new(x:Ext σ σ')(h:σ' a=Jb):σ a=Jb:=by
 induction e:σ a with
 |none=>rfl
 |some o=>exact sn<|(x a o e).symm.trans h
theorem PartOK.nil{f:String->List Jg}:PartOK σ f t []:=⟨λo0=>⟨.nil,λa h=>(bQ h)⟩,λx o0 a h=>(bQ h)⟩
theorem PartOK.from{f:String->List Jg}(h:PartOK σ1 f t F)(x:Ext σ σ1):PartOK σ f t F:=
 ⟨λe=>⟨(h.own e).1,λa T=>x.new<|(h.own e).2 a T⟩,λs e a T=>(h.al s e a T).imp_left x.new⟩
theorem ER.from{f:String->List Jg}{d:D}(h:ER σ1 f σ' d t v F)(x:Ext σ σ1):ER σ f σ' d t v F:=⟨h.rd,x.trans h.ext,h.part.from x⟩
theorem ER.at0{f:String->List Jg}{d:D}(x:Ext σ σ')(r:RdF σ' d v []):ER σ f σ' d t v []:=⟨r,x,.nil⟩
theorem PartOK.tg0{f:String->List Jg}{d:D}(h:PartOK σ f t F)(r:RdF σ' d v F):PartOK σ f (tg0 d t) F:=by
 unfold Vl.Internal.tg0
 induction e:d.atom with
 |true=>rw[r.atom e];exact .nil
 |false=>exact h
theorem PartOK.tgl{f:String->List Jg}{d:List D}(h:PartOK σ f t F)(r:RdFs σ' d v F):PartOK σ f (tgl d t) F:=by
 unfold Vl.Internal.tgl
 induction e:D.atoms d with
 |true=>rw[r.atom e];exact .nil
 |false=>exact h
theorem mZ(h:tj a b=Jb):a=Jb/\b=Jb:=by
 induction a with
 |none=>exact⟨rfl,h⟩
 |some x=>rcases b with⟨⟩<;>exact sn h
theorem sR(h:tj a b=Ja xs):(∀ys,a=Ja ys->∀y∈ys,y∈xs)/\(∀ys,b=Ja ys->∀y∈ys,y∈xs):=by
 induction a with
 |none=>exact⟨λys e=>(ns e),λys e y W=>by cases h.symm.trans e;exact W⟩
 |some x=>induction b with
  |none=>obtain rfl:=sj h;exact⟨λys e y W=>by obtain rfl:=sj e;exact W,λys e=>(ns e)⟩
  |some y=>obtain rfl:=sj h;exact⟨λys e z v=>by obtain rfl:=sj e;exact Qf _ v,λys e z v=>by obtain rfl:=sj e;exact Qe _ v⟩
theorem PartOK.wide{f:String->List Jg}(h:PartOK σ f t F)(k:∀ys,t=Ja ys->∀y∈ys,y∈xs):PartOK σ f (Ja xs) F:=
 ⟨λe=>(sn e),λzs e a T=>by
  obtain rfl:=sj e
  induction W:t with
  |none=>exact .inl<|(h.own W).2 a T
  |some ys=>exact(h.al ys W a T).imp_right λz=>by obtain⟨x,hx,w⟩:=z;exact⟨x,k ys W x hx,w⟩⟩
theorem PartOK.join{f:String->List Jg}(h:PartOK σ f s F)(k:PartOK σ f t G)(d:s=Jb->t=Jb->Disj F G):PartOK σ f (tj s t) (F++G):=by
 refine⟨λe=> ?_,λx e a T=> ?_⟩
 ·obtain⟨p,w⟩:=mZ e;refine⟨Qo.mpr ⟨(h.own p).1,(k.own w).1,λa T b R q=>d p w a T<|q▸R⟩,λa T=> ?_⟩
  rcases Qn.mp T with T|T
  ·exact(h.own p).2 a T
  ·exact(k.own w).2 a T
 ·obtain⟨m,M⟩:=sR e
  rcases Qn.mp T with T|T
  ·exact(h.wide m).al x rfl a T
  ·exact(k.wide M).al x rfl a T
theorem PartOK.sub{f:String->List Jg}{F G:List Jg}(h:PartOK σ f t F)(s:G.Sublist F):PartOK σ f t G:=
 ⟨λe=>⟨(h.own e).1.sublist s,λa T=>(h.own e).2 a (s.subset T)⟩,λx e a T=>h.al x e a<|s.subset T⟩
theorem PartOK.cons{fp:String->List Jg}(h:PartOK σ fp t F)(ha:σ a=Jb)(hf:a∉F):PartOK σ fp t (a::F):=
 ⟨λe=>⟨Qy.mpr ⟨hf,(h.own e).1⟩,λb hb=>by cases hb with|head=>exact ha|tail _ hb=>exact(h.own e).2 b hb⟩,
  λxs e b hb=>by cases hb with|head=>exact .inl ha|tail _ hb=>exact h.al xs e b hb⟩
inductive ERs(σ:PH)(fp:String->List Jg)(σ':PH):List (D×Tag)->List PV->List (List Jg)->Prop
 |nil:ERs σ fp σ' [] [] []
 |cons {d:D} {t:Tag} {v:PV} {F:List Jg} {ds:List (D×Tag)} {vs:List PV} {Fs:List (List Jg)}:RdF σ' d v F->PartOK σ fp t F->
   (∀p∈ds.zip Fs,(t=Option.none\/p.1.2=Option.none)->Disj F p.2)->ERs σ fp σ' ds vs Fs->ERs σ fp σ' ((d,t)::ds) (v::vs) (F::Fs)
theorem ERs.rds{f:String->List Jg}{F:List (List Jg)}(h:ERs σ f σ' ds vs F):RdFs σ' (fsts ds) vs F.flatten:=by
 induction h with
 |nil=>exact⟨rfl,rfl⟩
 |cons r p q h i=>exact⟨_,_,_,_,rfl,rfl,r,i⟩
theorem ERs.lens{f:String->List Jg}{ds:List (D×Tag)}{vs:List PV}{F:List (List Jg)}(h:ERs σ f σ' ds vs F):vs.length=ds.length/\F.length=ds.length:=by
 induction h with
 |nil=>exact⟨rfl,rfl⟩
 |cons r p q h i=>exact⟨Ub (· +1) i.1,Ub (· +1) i.2⟩
theorem ERs.part{f:String->List Jg}{s:List (List Jg)}(h:ERs σ f σ' ds vs s):PartOK σ f (tjs ds) s.flatten:=by
 induction h with
 |nil=>exact .nil
 |@cons d t v F ds vs s r p q h W=>
  refine p.join W λe w a T b=> ?_;obtain⟨G,C,b⟩:=List.mem_flatten.mp b;obtain⟨i,V,rfl⟩:=KT C;have l:=h.lens.2;exact q (ds[i],s[i]) (List.mem_iff_getElem.mpr ⟨i,by rw[List.length_zip];exact Nat.lt_min.mpr ⟨zq V l,V⟩,List.getElem_zip⟩) (.inl e) a T b
def i7(O:List Jg)(σ σ':PH):Prop:=∀a o,σ a=Ja o->a∉O->σ' a=Ja o
structure ResOK(σ:PH)(O As:List Jg)(σ':PH)(d:D)(b:Bool)(v:PV)(F:List Jg):Prop where
 rd:RdF σ' d v F
 kept:i7 O σ σ'
 own:b=Jc->F.Nodup/\∀a∈F,σ a=Jb\/a∈O
 al:∀a∈F,σ a=Jb\/a∈As
structure ResX(σ:PH)(O:List Jg)(σ':PH)(ds:List D)(ws:List PV)(F:List Jg):Prop where
 rd:RdFs σ' ds ws F
 kept:i7 O σ σ'
 nd:F.Nodup
 own:∀a∈F,σ a=Jb\/a∈O
structure XOK(σ σ':PH)(ds:List D)(ws:List PV)(F:List Jg):Prop where
 rd:RdFs σ' ds ws F
 ext:Ext σ σ'
 nd:F.Nodup
 own:∀a∈F,σ a=Jb
theorem XOK.from{ws:List PV}(h:XOK σ1 σ' ds ws F)(x:Ext σ σ1):XOK σ σ' ds ws F:=⟨h.rd,x.trans h.ext,h.nd,λa T=>x.new (h.own a T)⟩
inductive ArgsR(σ:PH):List (D×Bool)->List PV->List (List Jg)->Prop
 |nil:ArgsR σ [] [] []
 |cons {d:D} {b:Bool} {v:PV} {F:List Jg} {ds:List (D×Bool)} {vs:List PV} {Fs:List (List Jg)}:RdF σ d v F->(b=Jc->F.Nodup)->
   (∀p∈ds.zip Fs,(b=Jc\/p.1.2=Jc)->Disj F p.2)->ArgsR σ ds vs Fs->ArgsR σ ((d,b)::ds) (v::vs) (F::Fs)
noncomputable def owned:List (D×Bool)->List (List Jg)->List Jg
 |(_,b)::d,F::s=>(if b then F else [])++owned d s
 |_,_=>[]
def Ab(cv:Cl)(f:String)(args:List (D×Bool))(Q:D->Bool->Prop)(X:DX):Prop:=∀ (t:PH) (w:List PV) (s:List (List Jg)) (r:Post) (H:XPost),ArgsR t args w s->
 (∀d b v T F,Q d b->ResOK t (owned args s) s.flatten T d b v F->r v T)->(∀c z ws T F,X c z->ResX t (owned args s) T z ws F->H ⟨c,ws⟩ T)->cv f w t r H
structure IoOK(σ:PH)(O:List Jg)(σ':PH)(d:D)(v:PV)(F:List Jg):Prop where
 rd:RdF σ' d v F
 nd:F.Nodup
 own:∀a∈F,σ a=Jb\/a∈O
 kept:i7 O σ σ'
def zn(cv:Cl)(f:String)(i:Nat)(args:List (D×Bool))(Q:D->Prop):Prop:=∀ (t:PH) (s:List PV) (w:List (List Jg)) (r:Post) (H:XPost) (v:PV),ArgsR t args s w->s[i]? =Ja v->
 (∀d X F,Q d->IoOK t (owned args w) X d v F->r .none X)->cv f s t r H
noncomputable def aQ(cv:Cl):DCl:=⟨Ab cv,zn cv⟩
theorem ERs.args{f:String->List Jg}(h:ERs σ f σ' ds vs s):ArgsR σ' (flags ds) vs s:=by
 induction h with
 |nil=>exact .nil
 |@cons d t v F ds vs s r p q h i=>
  refine .cons r (λe=>(p.own<|Kd.mp e).1) (λx hx e=> ?_) i;rw[List.zip_map_left] at hx;obtain⟨y,W,rfl⟩:=Ql.mp hx;exact q y W<|e.imp Kd.mp Kd.mp
theorem ERs.owned{f:String->List Jg}(h:ERs σ f σ' ds vs s):∀a∈owned (flags ds) s,σ a=Jb:=by
 induction h with
 |nil=>intro a T;cases T
 |@cons d t v F ds vs s r p q h i=>
  intro a T
  rcases Qn.mp (show a∈(if t.isNone then F else [])++Vl.Internal.owned (flags ds) s from T) with T|T
  ·induction t with
   |none=>exact(p.own rfl).2 a T
   |some x=>cases T
  ·exact i a T
section
variable(G:Gx)(cv:Cl)
def DOK(e:E):Prop:=∀ (j:DRho) (L:Rho) (f:String->List Jg) (W:PH) (Q:DQ) (X:DX) (r:Post) (H:XPost),EnvE W j L f->dwe G (aQ cv) e j Q X->
 (∀d t v T F,Q d t->ER W f T d t v F->r v T)->(∀c s ws T F,X c s->XOK W T s ws F->H ⟨c,ws⟩ T)->we G cv e L W r H
def DOKs(es:List E):Prop:=∀ (j:DRho) (L:Rho) (f:String->List Jg) (t:PH) (Q:List (D×Tag)->Prop) (X:DX) (r:List PV->PH->Prop) (H:XPost),EnvE t j L f->dwes G (aQ cv) es j Q X->
 (∀d v T s,Q d->Ext t T->ERs t f T d v s->r v T)->(∀c d ws T F,X c d->XOK t T d ws F->H ⟨c,ws⟩ T)->wes G cv es L t r H
end
noncomputable abbrev keysD(L:DRho):List String:=L.map (·.1)
noncomputable abbrev keysR(L:Rho):List String:=L.map (·.1)
theorem DRho.get_put_ne(h:y≠x):∀ (L:DRho),(L.put x v).get y=L.get y
 |[]=>rfl
 |(z,o)::r=>by
  by_cases T:z=x
  ·have:z≠y:=λq=>h<|q.symm.trans T;simp only[DRho.put_if,T,if_true,DRho.get_if];rw[Y7 (λq=>h q.symm),Y7 (λq=>h q.symm)]
  ·simp only[DRho.put_if,T,if_false,DRho.get_if,DRho.get_put_ne h r]
theorem DRho.get_put:∀ (L:DRho),x∈keysD L->(L.put x v).get x=Ja v
 |(z,o)::r,h=>by
  by_cases T:z=x
  ·simp only[DRho.put_if,T,if_true,DRho.get_if]
  ·simp only[DRho.put_if,T,if_false,DRho.get_if];exact DRho.get_put r<|by simpa [Ne.symm T] using h
theorem DRho.get_mem:∀ (L:DRho),L.get x=Ja v->x∈keysD L
 |(z,o)::r,h=>by
  by_cases T:z=x
  ·subst T;exact .head _
  ·simp only[DRho.get_if,T,if_false] at h;exact .tail _<|DRho.get_mem r h
theorem DRho.put_keys:∀ (L:DRho),keysD (L.put x v)=keysD L
 |[]=>rfl
 |(z,o)::r=>by
  by_cases h:z=x
  ·simp only[DRho.put_if,h,if_true,keysD,Qq]
  ·simp only[DRho.put_if,h,if_false,keysD,Qq];exact Ub _<|DRho.put_keys r
theorem Rho.gput_ne(h:y≠x):∀ (L:Rho),(L.put x v).get y=L.get y
 |[]=>rfl
 |(z,o)::r=>by
  by_cases T:z=x
  ·simp only[Rho.put_c,T,if_true,Rho.get_c];rw[Y7 (λq=>h q.symm),Y7 (λq=>h q.symm)]
  ·simp only[Rho.put_c,T,if_false,Rho.get_c,Rho.gput_ne h r]
theorem Rho.gput:∀ (L:Rho),x∈keysR L->(L.put x v).get x=Ja v
 |(z,o)::r,h=>by
  by_cases T:z=x
  ·simp only[Rho.put_c,T,if_true,Rho.get_c]
  ·simp only[Rho.put_c,T,if_false,Rho.get_c];exact Rho.gput r<|by simpa [Ne.symm T] using h
theorem Rho.put_keys:∀ (L:Rho),keysR (L.put x v)=keysR L
 |[]=>rfl
 |(z,o)::r=>by
  by_cases h:z=x
  ·simp only[Rho.put_c,h,if_true,keysR,Qq]
  ·simp only[Rho.put_c,h,if_false,keysR,Qq];exact Ub _<|Rho.put_keys r
theorem EnvE.put{L:DRho}{A:Rho}{f:String->List Jg}(h:EnvE σ L A f){d:D}(r:RdF σ d v F):
  EnvE σ (L.put x (d,b)) (A.put x v) (fset f x F):=by
 refine⟨λy X c e=> ?_,λy a T=> ?_,(DRho.put_keys _).trans (h.keys.trans (Rho.put_keys _).symm)⟩
 rotate_left
 ·by_cases W:y=x
  ·subst W;rw[dm] at T;exact r.dom a T
  ·rw[cr W] at T;exact h.dom y a T
 by_cases W:y=x
 ·subst W;rw[dm];have m:y∈keysD L:=by
   have:=DRho.get_mem _ e
   rwa [DRho.put_keys] at this
  rw[DRho.get_put _ m] at e;cases e;exact⟨v,Rho.gput _<|by rw[show keysR A=keysD L from h.keys.symm];exact m,r⟩
 ·rw[cr W];rw[DRho.get_put_ne W] at e;rw[Rho.gput_ne W];exact h.at_ y X c e
theorem EnvE.puts:∀ (xs:List String) (ds:List D) (vs:List PV) (F:List Jg) (Δ:DRho) (ρ:Rho) (fp:String->List Jg),EnvE σ Δ ρ fp->xs.length=ds.length->RdFs σ ds vs F->
  vs.length=xs.length/\∃fp',EnvE σ (Δ.puts xs ds b) (ρ.puts xs vs) fp'/\keysD (Δ.puts xs ds b)=keysD Δ/\∀y a,a∈fp' y->(y∈xs/\a∈F)\/(y∉xs/\a∈fp y):=by
 intro xs
 induction xs with
 |nil=>
  intro ds vs F Δ ρ fp h hl r
  induction ds using List.casesOn with
  |cons=>cases hl
  |nil=>
   obtain⟨rfl,rfl⟩:=r;exact⟨rfl,fp,h,rfl,λy a ha=> .inr ⟨Kl,ha⟩⟩
 |cons x xs ih=>
  intro ds vs F Δ ρ fp h hl rr0
  induction ds using List.casesOn with
  |nil=>cases hl
  |cons d ds=>
   obtain⟨p,ps,F1,F2,e1,e2,r1,r2⟩:=rr0;subst e1 e2;obtain⟨l1,fp',h1,h3,h4⟩:=ih ds ps F2 _ _ _ (h.put (b:=b) r1) (Nat.succ.inj hl) r2;refine⟨Ub (· +1) l1,fp',h1,h3.trans<|DRho.put_keys _,λy a ha=> ?_⟩
   rcases h4 y a ha with⟨q1,q2⟩|⟨q1,q2⟩
   ·exact .inl ⟨.tail _ q1,Qe _ q2⟩
   ·by_cases hy:y=x
    ·rw[hy,dm] at q2;exact .inl ⟨hy▸ .head _,Qf _ q2⟩
    ·rw[cr hy] at q2;exact .inr ⟨λm=>by cases m with|head=>exact hy rfl|tail _ m=>exact q1 m,q2⟩
theorem EnvE.bindT{tg:Tg}{d:D}{p:String->List Jg}(h:EnvE σ L A p)(r:RdF σ d v F)(e:dK tg d b L=Ja P):
  X2 λρ' f=>A4 (bindT tg v A=Ja ρ') (EnvE σ P ρ' f) (keysD P=keysD L) (∀y a,a∈f y->(y∈tg.names/\a∈F)\/(y∉tg.names/\a∈p y)):=by
 induction tg with
 |name x=>
  obtain rfl:=sj e;refine⟨_,_,rfl,h.put r,DRho.put_keys _,λy a T=> ?_⟩;by_cases W:y=x
  ·rw[W,dm] at T;exact .inl ⟨W▸ .head _,T⟩
  ·rw[cr W] at T;exact .inr ⟨λm=>W<|Qk.mp m,T⟩
 |tup w=>
  induction d using D.casesOn with
  |tup s=>
   obtain⟨l,rfl,H,r⟩:=r;by_cases q:s.length=w.length
   ·have g:Ja (L.puts w s b)=Ja P:=by rw[<-e];exact(Y8 q).symm
    obtain rfl:=sj g;obtain⟨U,f,N,J,O⟩:=EnvE.puts (b:=b) w s l F L A p h q.symm r;exact⟨_,f,Y8 U,N,J,O⟩
   ·have g:Jb=Ja P:=by rw[<-e];exact(Y7 q).symm
    exact ns g
  |_=>first|exact bnx e|exact onx e|cases e
theorem DRho.get_app:∀ (xs:List String) (Δ:DRho),DRho.get ((xs.map λx=>(x,Option.none))++Δ) y=Ja q->y∉xs/\Δ.get y=Ja q
 |[]=>λΔ e=>⟨Kl,e⟩
 |x::xs=>λΔ e=>by
  by_cases hx:x=y
  ·simp[DRho.get_if,hx] at e
  ·simp only[Qq,List.cons_append,DRho.get_if,hx,if_false] at e;obtain⟨h1,h2⟩:=DRho.get_app xs Δ e;exact⟨λm=>by cases m with|head=>exact hx rfl|tail _ m=>exact h1 m,h2⟩
theorem Rho.get_app:∀ (xs:List String) (L:Rho),y∉xs->Rho.get ((xs.map λx=>(x,Option.none))++L) y=L.get y
 |[]=>λL e=>rfl
 |x::xs=>λL e=>by
  have hx:x≠y:=λq=>e<|q▸ .head _;simp only[Qq,List.cons_append,Rho.get_c,hx,if_false];exact Rho.get_app xs L λm=>e<|.tail _ m
theorem EnvE.bindC{tg:Tg}{d:D}{u:String->List Jg}(h:EnvE σ j L u)(r:RdF σ d v F)(e:bp tg d j=Ja P):
  X2 λρ' f=>A3 (bindC tg v L=Ja ρ') (EnvE σ P ρ' f) (∀y a,a∈f y->(y∈tg.names/\a∈F)\/(y∉tg.names/\a∈u y)):=by
 have k:keysD (hV tg j)=keysR (blank tg L):=by
  simp only[keysD,keysR,hV,blank,Qq,QD,QE];rw[show Kt (λx=>x.fst) j=Kt (λx=>x.fst) L from h.keys];rfl
 have i:EnvE σ (hV tg j) (blank tg L) u:=by
  refine⟨λy d b e=> ?_,h.dom,k⟩;by_cases W:".0"=y
  ·simp[hV,DRho.get_if,W] at e
  ·simp only[hV,DRho.get_if,W,if_false] at e;obtain⟨N,p⟩:=DRho.get_app _ _ e;obtain⟨v,J,w⟩:=h.at_ y d b p;refine⟨v,?_,w⟩;simp only[blank,Rho.get_c,W,if_false];rw[Rho.get_app _ _ N];exact J
 obtain⟨ρ',f,N,p,o0,w⟩:=i.bindT r e;exact⟨ρ',f,N,p,w⟩
mutual
theorem RdF.py:∀ {d:D} {n:Nat} {v:PV} {F:List Jg},RdF σ d v F->d.okd n=Jc->Rd σ d.py v/\d.py.canLay0=Jc/\d.py.depth<=n
 | .none,_,_,_,r,_=>⟨r.1,rfl,QV _⟩
 | .bool _,_,_,_,r,_=>⟨r.1,rfl,QV _⟩
 | .int _,_,_,_,r,_=>⟨r.1,rfl,QV _⟩
 | .str _,n,_,_,r,h=>⟨⟨_,r.1,rfl⟩,by rcases n with⟨⟩<;>exact h,QV _⟩
 | .tup l,n,_,_,r,h=>by
  induction n using Nat.casesOn with
  |zero=>exact bnx h
  |succ n=>
   obtain⟨vs,N,o0,Y⟩:=r;obtain⟨k,U,V⟩:=RdFs.py Y (show D.okds n l=Jc from h);exact⟨⟨vs,N,k⟩,U,KN V⟩
 | .list l,n,_,_,r,h=>by
  induction n using Nat.casesOn with
  |zero=>exact bnx h
  |succ n=>
   obtain⟨a,vs,o0,N,Y,o0,o0,J⟩:=r;obtain⟨k,U,V⟩:=RdFs.py J (show D.okds n l=Jc from h);exact⟨⟨a,vs,N,Y,k⟩,U,KN V⟩
 | .scr _,n,_,_,_,h=>by rcases n with⟨⟩<;>exact bnx h
 | .hole,n,_,_,_,h=>by rcases n with⟨⟩<;>exact bnx h
 | .inst _ _,n,_,_,_,h=>by rcases n with⟨⟩<;>exact bnx h
 | .dict _ _,n,_,_,_,h=>by rcases n with⟨⟩<;>exact bnx h
theorem RdFs.py:∀ {ds:List D} {n:Nat} {l:List PV} {F:List Jg},RdFs σ ds l F->D.okds n ds=Jc->Rds σ (D.pys ds) l/\PyData.canLayAll0 (D.pys ds)=Jc/\PyData.depthAll (D.pys ds)<=n
 |[],_,_,_,r,_=>⟨r.1,rfl,QV _⟩
 |d::ds,n,_,_,r,h=>by
  obtain⟨p,ps,o0,o0,N,o0,Y,J⟩:=r;obtain⟨e,e2⟩:=Qh.mp (show(D.okd n d&&D.okds n ds)=Jc from h);obtain⟨k,U,V⟩:=RdF.py Y e;obtain⟨m,M,q⟩:=RdFs.py J e2;exact⟨⟨p,ps,N,k,m⟩,Qh.mpr ⟨U,M⟩,Nat.max_le.mpr ⟨V,q⟩⟩
end
theorem Bm{d:D}(r:RdF σ d v F)(h:kaD d=Ja k):kaOf v=Ja k:=by
 induction d using D.casesOn with
 |int i=>rw[r.1];exact h
 |str i=>rw[r.1];exact h
 |_=>first|exact bnx h|exact onx h|cases h
theorem uM:∀ {ds:List D} {l:List PV} {F:List Jg} {k:List KA},RdFs σ ds l F->kasD ds=Ja k->kasOf l=Ja k
 |[],_,_,_,r,h=>by rw[r.1];exact h
 |d::ds,_,_,k,r,h=>by
  obtain⟨p,s,o0,o0,N,o0,Y,J⟩:=r;obtain⟨a,T,h⟩:=Qr.mp (show((kaD d).bind λk=>(kasD ds).map (k:: ·))=Ja k from h);obtain⟨b,e,rfl⟩:=Qs.mp h;rw[N];show((kaOf p).bind λk=>(kasOf s).map (k:: ·))=_;rw[Bm Y T,uM J e];rfl
theorem ma{d:D}(r:RdF σ d v F)(h:keyD d=Ja k):keyOf v=Ja k:=by
 induction d using D.casesOn with
 |tup l=>obtain⟨m,rfl,o0,r⟩:=r;exact uM r h
 |_=>first|exact bnx h|exact onx h|cases h
theorem tX{d:D}{K K':List KA->Prop}(r:RdF σ d v F)(h:oK K (keyD d))(k:∀x,K x->K' x):oK K' (keyOf v):=by
 obtain⟨x,e,h⟩:=i4 h;rw[ma r e];exact k x h
theorem vq:∀k:List KA,RdFs σ (k.map KA.d) (k.map KA.pv) []
 |[]=>⟨rfl,rfl⟩
 |a::k=>⟨_,_,[],[],rfl,rfl,by rcases a with⟨⟩<;>exact⟨rfl,rfl⟩,vq k⟩
section
variable{σ σ1 σ2 σ':PH}{fp:String->List Jg}{Δ:DRho}{ρ:Rho}
theorem PartOK.apart(f:∀x,∀a∈fp x,∃l:MO,σ a=Ja l.1)(M:Ext σ σ1)(pa:PartOK σ fp k F)(d:∀a∈F,∃l:MO,σ1 a=Ja l.1)(pb:PartOK σ1 fp t b)(h:k=Jb\/t=Jb):Disj F b:=λa T R=>by
 obtain⟨l,e⟩:=d a T
 induction t with
 |none=>have:=(pb.own rfl).2 a R;exact sn<|e.symm.trans this
 |some s=>
  have n:=(pa.own<|h.resolve_right λq=>by exact sn q).2 a T
  rcases pb.al s rfl a R with q|⟨x,o0,q⟩
  ·exact sn<|e.symm.trans q
  ·obtain⟨K,g⟩:=f x a q;exact ns<|n.symm.trans g
theorem et{t:Tag}{ds:List D}{l:List PV}{F:List Jg}{Q:DQ}{Q':Post}(x:Ext σ σ')(r:RdFs σ' ds l F)(H:l.length<=lim)(p:PartOK σ fp t F)(q:Q (.list ds) t)
  (k:∀d t v σ' F,Q d t->ER σ fp σ' d t v F->Q' v σ'):wnew (.list l) σ' Q':=λa T=>by
 refine k _ _ _ _ (a::F) q ⟨⟨a,l,F,rfl,PH.set_same _ _ _,H,rfl,r.ext<|Ext.set T _⟩,x.trans<|Ext.set T _,p.cons (x.new T) λh=> ?_⟩;obtain⟨K,e⟩:=r.dom a h;exact ns<|T.symm.trans e
theorem RdFs.app{d e:List D}:∀ {l:List PV} {F:List Jg},RdFs σ d l F->RdFs σ e m G->RdFs σ (d++e) (l++m) (F++G):=by
 induction d with
 |nil=>intro l F h k;obtain⟨rfl,rfl⟩:=h;exact k
 |cons d f i=>
  intro l F h k;obtain⟨p,s,j,N,E,Y,J,w⟩:=h;subst E Y;exact⟨p,s++m,j,N++G,rfl,Kn _ _ _,J,i w k⟩
theorem RdFs.len{d:List D}:∀ {l:List PV} {F:List Jg},RdFs σ d l F->l.length=d.length:=by
 induction d with
 |nil=>intro l F h;rw[h.1];rfl
 |cons d s i=>intro l F h;obtain⟨p,I,j,q,N,Y,J,w⟩:=h;rw[N];exact Ub (· +1)<|i w
theorem wG(xs:List String)(t:Tag):∃ys,tj (Ja xs) t=Ja ys/\∀zs,t=Ja zs->∀z∈zs,z∈ys:=by
 induction t with
 |none=>exact⟨xs,rfl,λzs e=>ns e⟩
 |some y=>exact⟨xs++y,rfl,λzs e z h=>by obtain rfl:=sj e;exact Qe _ h⟩
theorem wp(x:Ext σ σ')(r:RdF σ' a A O)(e:RdF σ' b Z I)(pa:PartOK σ fp R O)(pb:PartOK σ fp B I)
  (J:R=Jb->B=Jb->Disj O I)(h:dadd a b R B Q)(k:∀d t v σ' F,Q d t->ER σ fp σ' d t v F->Q' v σ'):wadd A Z σ' Q':=by
 induction a using D.casesOn with
 |int i=>
  obtain⟨j,rfl,h⟩:=eS h;obtain⟨rfl,rfl⟩:=r;obtain⟨rfl,rfl⟩:=e;exact k _ _ _ _ _ h<|.at0 x ⟨rfl,rfl⟩
 |list l=>
  obtain⟨m,rfl,h⟩:=fy h;obtain⟨p,K,F,rfl,T,H,rfl,r⟩:=r;obtain⟨q,N,G,rfl,w,L,rfl,e⟩:=e;have z:(K++N).length<=lim:=by rw[(r.app e).len];exact h.1
  show onL σ' (λl=>onL σ' (λm=>wlist (l++m) σ' Q')<|.ref q) (.ref p);rw[gA T,gA w];exact⟨z,et x (r.app e) z (((pa.sub<|KF _ _).join (pb.sub<|KF _ _) λT w c C W=>J T w c (.tail _ C)<|.tail _ W).tgl (r.app e)) h.2 k⟩
 |_=>exact h.elim
theorem wJ(x:Ext σ σ')(r:RdF σ' a A O)(J:RdF σ' b q I)(pa:PartOK σ fp B O)(pb:PartOK σ fp l I)
  (P:B=Jb->l=Jb->Disj O I)(h:dbin o a b B l Q)(k:∀d t v σ' F,Q d t->ER σ fp σ' d t v F->Q' v σ'):wbin o A q σ' Q':=by
 have two:∀ {K:Int->Int->Prop} {W:Int->Int->Prop},dInt (λx=>dInt (λy=>K x y) b) a->(∀x y,K x y->W x y)->onInt (λx=>onInt (λy=>W x y) q) A:=λw k=>by
  obtain⟨i,e,w⟩:=eS w;obtain⟨j,g,w⟩:=eS w;subst e g;obtain⟨rfl,o0⟩:=r;obtain⟨rfl,o0⟩:=J;exact k i j w
 induction o with
 |add=>exact wp x r J pa pb P h k
 |mul=>exact two h λi j h=>⟨h.1,k _ _ _ _ _ h.2<|.at0 x ⟨rfl,rfl⟩⟩
 |sub=>exact two h λi j h=>k _ _ _ _ _ h<|.at0 x ⟨rfl,rfl⟩
 |fdiv=>exact two h λi j h=>⟨h.1,h.2.1,k _ _ _ _ _ h.2.2<|.at0 x ⟨rfl,rfl⟩⟩
 |mod=>exact two h λi j h=>⟨h.1,k _ _ _ _ _ h.2<|.at0 x ⟨rfl,rfl⟩⟩
 |pow=>exact two h λi j h=>⟨h.1,h.2.1,h.2.2.1,k _ _ _ _ _ h.2.2.2<|.at0 x ⟨rfl,rfl⟩⟩
theorem nB{d:D}(r:RdF σ d v F)(h:d.okd n=Jc)(o:n<=50):Rd σ d.py v/\okD d.py:=by
 obtain⟨N,p,J⟩:=r.py h;exact⟨N,p,Qv J o⟩
theorem qw:∀l:List D,D.pys l=l.map D.py
 |[]=>rfl
 |d::s=>Ub _<|qw s
theorem vG:∀ {vs:List PV} {F:List Jg} {n:Nat},RdFs σ l vs F->D.okds n l=Jc->n<=50->∀d∈D.pys l,okD d:=by
 induction l with
 |nil=>intro vs F n _ _ _ e O;cases O
 |cons d s i=>
  intro vs F n r h o e O;obtain⟨p,I,j,N,E,Y,J,w⟩:=r;obtain⟨k,U⟩:=Qh.mp (show(D.okd n d&&D.okds n s)=Jc from h);cases O with
  |head=>exact(nB J k o).2
  |tail _ O=>exact i w U o e O
theorem tT{Q:Bool->Prop}{Q':Bool->PH->Prop}(C:RdF σ a A F)(l:RdF σ b v I)(h:deq a b Q)(k:∀r,Q r->Q' r σ):weq A v σ Q':=by
 obtain⟨N,p⟩:=nB C h.1.1 (by decide);obtain⟨J,w⟩:=nB l h.1.2 (by decide);exact⟨_,_,N,J,p,w,k _ h.2⟩
theorem qR{Q:Bool->Prop}{Q':Bool->PH->Prop}(C:RdF σ a v F)(e:RdF σ b B I)(h:din a b Q)(k:∀r,Q r->Q' r σ):win v B σ Q':=by
 induction b using D.casesOn with
 |list l=>
  obtain⟨p,m,G,rfl,T,H,rfl,e⟩:=e;obtain⟨N,Y⟩:=nB C h.1.1 (by decide);refine .inr ?_;rw[gA T];refine⟨_,_,N,(e.py h.1.2).1,Y,vG e h.1.2<|by decide,k _ ?_⟩;rw[qw,List.any_map];exact h.2
 |dict s l=>
  obtain⟨p,m,G,rfl,T,H,rfl,e⟩:=e;refine .inl ?_;show onDO _ (σ p);rw[T];exact tX C h λx q=>k _ q
 |_=>exact h.elim
theorem j9{f:Int->Int->Bool}{Q:Bool->Prop}{Q':Bool->PH->Prop}(C:RdF σ a v F)(l:RdF σ b q I)(h:drel f a b Q)(k:∀r,Q r->Q' r σ):wrel f v q σ Q':=by
 obtain⟨i,e,h⟩:=eS (show dInt (λx=>dInt (λy=>Q<|f x y) b) a from h);obtain⟨j,g,h⟩:=eS h;subst e g;obtain⟨rfl,o0⟩:=C;obtain⟨rfl,o0⟩:=l;exact k _ h
theorem mn{Q:Bool->Prop}{Q':Bool->PH->Prop}(C:RdF σ a A F)(l:RdF σ b v I)(h:dcmp o a b Q)(k:∀r,Q r->Q' r σ):wcmp o A v σ Q':=by
 induction o with
 |eq=>exact tT C l h k
 |ne=>exact tT (Q:=λr=>Q (!r)) (Q':=λr σ=>Q' (!r) σ) C l h λr q=>k _ q
 |in_=>exact qR C l h k
 |nin=>exact qR (Q:=λr=>Q (!r)) (Q':=λr σ=>Q' (!r) σ) C l h λr q=>k _ q
 |lt=>exact j9 C l h k
 |le=>exact j9 C l h k
 |gt=>exact j9 C l h k
 |ge=>exact j9 C l h k
end
section
variable{σ σ1 σ2 σ':PH}{fp:String->List Jg}{Δ:DRho}{ρ:Rho}
theorem vR{d:D}(r:RdF σ d v F)(h:dlen d=Ja n):plen σ v=Ja n/\n<=lim:=by
 induction d using D.casesOn with
 |list l=>
  obtain⟨a,m,G,rfl,e,T,rfl,r⟩:=r;obtain rfl:=sj h;refine⟨?_,r.len▸T⟩;show(match σ a with
   |some (.list l)=>Ja l.length
   |_=>Jb)=_
  rw[e];exact Ub Ja r.len
 |tup l=>
  obtain⟨m,rfl,T,r⟩:=r;obtain rfl:=sj h;exact⟨Ub Ja r.len,r.len▸T⟩
 |scr l=>
  obtain⟨⟨rfl,T⟩,o0⟩:=r;obtain rfl:=sj h;exact⟨rfl,T⟩
 |_=>first|exact bnx h|exact onx h|cases h
theorem jW:∀ {l:List D} {vs:List PV} {F:List Jg} {is:List Int},RdFs σ l vs F->dInts l=Ja is->dZ vs=Ja is
 |[],vs,F,is,r,h=>by rw[r.1];exact h
 |d::s,vs,F,is,N,h=>by
  obtain⟨p,I,Q,q,E,Y,J,w⟩:=N
  induction d using D.casesOn with
  |int i=>
   obtain⟨j,e,rfl⟩:=Qs.mp (show(dInts s).map (i:: ·)=Ja is from h);rw[E,J.1];exact Qs.mpr ⟨j,jW w e,rfl⟩
  |_=>first|exact bnx h|exact onx h|cases h
theorem kO:∀ {l:List D} {vs:List PV} {F:List Jg} {is:List Bool},RdFs σ l vs F->gC l=Ja is->em vs=Ja is
 |[],vs,F,is,r,h=>by rw[r.1];exact h
 |d::s,vs,F,is,N,h=>by
  obtain⟨p,I,Q,q,E,Y,J,w⟩:=N
  induction d using D.casesOn with
  |bool i=>
   obtain⟨j,e,rfl⟩:=Qs.mp (show(gC s).map (i:: ·)=Ja is from h);rw[E,J.1];exact Qs.mpr ⟨j,kO w e,rfl⟩
  |_=>first|exact bnx h|exact onx h|cases h
theorem ERs.one{d:D}(h:ERs σ fp σ' ds vs s)(e:ds=[(d,t)]):X2 λv F=>A3 (vs=[v]) (RdF σ' d v F) (PartOK σ fp t F):=by
 cases h with
 |nil=>cases e
 |cons r p q h=>
  cases e;cases h;exact⟨_,_,rfl,r,p⟩
theorem lp{d:D}{K:List D->Prop}{K':List PV->Prop}(r:RdF σ d v F)(h:dLst K d)(k:∀l vs G,K l->RdFs σ l vs G->vs.length<=lim->(G.Sublist F)->K' vs):onL σ K' v:=by
 obtain⟨l,rfl,h⟩:=fy h;obtain⟨a,m,G,rfl,e,T,rfl,r⟩:=r;rw[gA e];exact k _ _ _ h r T<|KF _ _
theorem mU{K K':List Int->Prop}(h:oIs K o)(e:∀is,o=Ja is->o'=Ja is)(k:∀is,K is->K' is):oIs K' o':=by
 obtain⟨is,N,p⟩:=j3 h;rw[e is N];exact k is p
theorem qB:∀ks:List (List KA),(∀k∈ks,k.length<=lim)->RdFs σ (ks.map keyDd) (ks.map keyPV) []
 |[]=>λo0=>⟨rfl,rfl⟩
 |k::ks=>λh=>⟨_,_,[],[],rfl,rfl,⟨_,rfl,(by rw[Qd];exact h k (.head _)),vq k⟩,qB ks λx hx=>h x (.tail _ hx)⟩
theorem qK:∀is:List Int,RdFs σ (is.map D.int) (is.map PV.int) []
 |[]=>⟨rfl,rfl⟩
 |i::is=>⟨_,_,[],[],rfl,rfl,⟨rfl,rfl⟩,qK is⟩
theorem zh(x:Ext σ σ')(r:ERs σ fp σ' ds vs Fs)(h:dbi b ds Q)
  (k:∀d t v σ' F,Q d t->ER σ fp σ' d t v F->Q' v σ'):wbi b vs σ' Q':=by
 have at1:∀ {K:D->Tag->Prop} {K':PV->Prop},d1 K ds->(∀d t v F,K d t->RdF σ' d v F->PartOK σ fp t F->K' v)->on1 K' vs:=λw k=>by
  obtain⟨d,t,e,w⟩:=zd w;obtain⟨v,F,rfl,rv,p⟩:=r.one e;exact k d t v F w rv p
 induction b with
 |len=>
  exact at1 h λd t v F w rv p=>by
   obtain⟨n,e,w⟩:=hZ w;obtain⟨h1,h2⟩:=vR rv e;rw[h1];exact⟨h2,k _ _ _ _ _ w<|.at0 x ⟨rfl,rfl⟩⟩
 |all=>
  exact at1 h λd t v F w rv p=>lp rv w λl vs G w r o0 o0=>by
   obtain⟨bs,e,w⟩:=jY w;rw[kO r e];exact k _ _ _ _ _ w<|.at0 x ⟨rfl,rfl⟩
 |any=>
  exact at1 h λd t v F w rv p=>lp rv w λl vs G w r o0 o0=>by
   obtain⟨bs,e,w⟩:=jY w;rw[kO r e];exact k _ _ _ _ _ w<|.at0 x ⟨rfl,rfl⟩
 |abs=>
  exact at1 h λd t v F w rv p=>by
   obtain⟨i,rfl,w⟩:=eS w;rw[rv.1];exact k _ _ _ _ _ w<|.at0 x ⟨rfl,rfl⟩
 |sum=>
  exact at1 h λd t v F w rv p=>lp rv w λl vs G w r o0 o0=>mU w (λis e=>jW r e) λis w=>k _ _ _ _ _ w<|.at0 x ⟨rfl,rfl⟩
 |int=>
  exact at1 h λd t v F w rv p=>by
   obtain⟨i,rfl,w⟩:=eH w;rw[rv.1];exact k _ _ _ _ _ w<|.at0 x ⟨rfl,rfl⟩
 |list=>
  exact at1 h λd t v F w rv p=>by
   induction d using D.casesOn with
   |tup l=>obtain⟨m,rfl,hl,r⟩:=rv;exact .inr ⟨hl,et x r hl (p.tgl r) w k⟩
   |list l=>
    obtain⟨a,m,G,rfl,e,hl,rfl,r⟩:=rv;refine .inr ?_;show onO _ (σ' a);rw[e];exact⟨hl,et x r hl ((p.sub<|KF _ _).tgl r) w k⟩
   |dict ks l=>
    obtain⟨a,m,G,rfl,e,hl,rfl,r⟩:=rv;refine .inl ?_;show onDO _ (σ' a);rw[e];have hk:(ks.map keyPV).length<=lim:=by rw[Qd];exact w.1.1
    exact⟨hk,et x (qB ks w.1.2) hk .nil w.2 k⟩
   |_=>exact w.elim
 |min=>
  exact at1 h λd t v F w rv p=>lp rv w λl vs G w r o0 o0=>mU w (λis e=>jW r e) λis w=>⟨w.1,k _ _ _ _ _ w.2<|.at0 x ⟨rfl,rfl⟩⟩
 |sorted=>
  exact at1 h λd t v F w rv p=>lp rv w λl vs G w r o0 o0=>mU w (λis e=>jW r e) λis w=>⟨w.1,λjs hp hs=>by
   have hl:(js.map PV.int).length<=lim:=by
    rw[Qd,hp.length_eq];exact Qv (Kv w.1)<|by decide
   exact⟨hl,et x (qK js) hl .nil (w.2 js hp hs) k⟩⟩
 |dict=>
  exact at1 h λd t v F w rv p=>by
   induction d using D.casesOn with
   |dict ks l=>
    obtain⟨a,m,G,rfl,e,hl,rfl,r⟩:=rv;show onDO _ (σ' a);rw[e];refine⟨⟨w.1.1,by rw[hl.2];exact hl.1,w.1.2.1⟩,λb hb=> ?_⟩;have hG:G=[]:=r.atom w.1.2.2;subst hG;refine k _ _ _ _ [b] w.2 ⟨⟨b,m,[],rfl,PH.set_same _ _ _,hl,rfl,r.ext<|Ext.set hb _⟩,x.trans<|Ext.set hb _,PartOK.nil.cons (x.new hb) λq=>(bQ q)⟩
   |_=>exact w.elim
end
section
variable{σ σ1 σ2 σ':PH}{fp:String->List Jg}{Δ:DRho}{ρ:Rho}
theorem yR{d:D}(r:RdF σ d v F)(h:disi G d t=Ja b):isiV G σ v t=Ja b:=by
 have key:disi G d t=Ja b->isiV G σ v t=Ja b:=λh=>by
  induction d using D.casesOn with
  |none=>rw[r.1];exact h
  |bool=>rw[r.1];exact h
  |int=>rw[r.1];exact h
  |str=>rw[r.1];exact h
  |scr=>exact ns h
  |hole=>exact ns h
  |tup l=>obtain⟨m,rfl,o0⟩:=r;exact h
  |list l=>
   obtain⟨a,m,o0,rfl,e,o0⟩:=r;show isiO G t (σ a)=_;rw[e];exact h
  |dict k l=>exact ns h
  |inst c l=>exact ns h
 exact key h
theorem RdFs.get:∀ {l:List PV} {F:List Jg},RdFs σ ds l F->∀ (j:Nat) (d:D),ds[j]? =Ja d->X2 λp G=>A3 (l[j]? =Ja p) (RdF σ d p G) (G.Sublist F):=by
 induction ds with
 |nil=>intro l F _ j d O;exact ns O
 |cons d ds i=>
  intro l F h j e O;obtain⟨p,s,Q,P,N,Y,J,w⟩:=h;subst N Y
  induction j using Nat.casesOn with
  |zero=>obtain rfl:=sj O;exact⟨p,Q,rfl,J,List.sublist_append_left _ _⟩
  |succ j=>
   obtain⟨q,G,k,U,V⟩:=i w j e O;exact⟨q,G,k,U,V.trans<|List.sublist_append_right _ _⟩
theorem RdFs.take{ds:List D}:∀ {l:List PV} {F:List Jg},RdFs σ ds l F->∀ (j:Nat),∃G,RdFs σ (ds.take j) (l.take j) G/\G.Sublist F:=by
 induction ds with
 |nil=>intro l F h j;obtain⟨rfl,rfl⟩:=h;rw[List.take_nil,List.take_nil];exact⟨[],⟨rfl,rfl⟩,List.nil_sublist _⟩
 |cons d ds i=>
  intro l F h j
  induction j using Nat.casesOn with
  |zero=>exact⟨[],⟨rfl,rfl⟩,List.nil_sublist _⟩
  |succ j=>
   obtain⟨p,s,Q,q,N,Y,J,w⟩:=h;subst N Y;obtain⟨G,P,k⟩:=i w j;exact⟨Q++G,⟨p,s.take j,Q,G,rfl,rfl,J,P⟩,List.Sublist.append (List.Sublist.refl _) k⟩
theorem RdFs.drop{ds:List D}:∀ {l:List PV} {F:List Jg},RdFs σ ds l F->∀ (j:Nat),∃G,RdFs σ (ds.drop j) (l.drop j) G/\G.Sublist F:=by
 induction ds with
 |nil=>intro l F h j;obtain⟨rfl,rfl⟩:=h;rw[List.drop_nil,List.drop_nil];exact⟨[],⟨rfl,rfl⟩,List.nil_sublist _⟩
 |cons d ds i=>
  intro l F h j
  induction j using Nat.casesOn with
  |zero=>exact⟨F,h,List.Sublist.refl _⟩
  |succ j=>
   obtain⟨p,s,Q,q,N,Y,J,w⟩:=h;subst N Y;obtain⟨G,P,k⟩:=i w j;exact⟨G,P,k.trans<|List.sublist_append_right _ _⟩
abbrev wsub(σ:PH)(v i:PV)(Q:PV->Prop):Prop:=onD σ (λs l=>oK (λk=>oV Q (klook s l k)) (keyOf i)) v\/oNat (λk=>k<=lim/\oV Q (psub σ v i)) (plen σ v)
theorem hH(T:plen σ v=Ja n)(e2:n<=lim)(e:psub σ v i=Ja p)(Q:PV->Prop)(q:Q p):wsub σ v i Q:=by
 refine .inr ?_;rw[T,e];exact⟨e2,q⟩
theorem RdFs.look(h:RdFs σ ds l F){d:D}(e:dlook ks ds k=Ja d):X3 λj p G=>A6 (kidx ks k=Ja j) (ds[j]? =Ja d) (l[j]? =Ja p) (klook ks l k=Ja p) (RdF σ d p G) (G.Sublist F):=by
 obtain⟨j,N,Y⟩:=Qr.mp e;obtain⟨p,G,g,c,H⟩:=h.get j d Y;exact⟨j,p,G,N,Y,g,Qr.mpr ⟨j,N,g⟩,c,H⟩
theorem oy(e:σ a=Ja (.dict ks l))(T:keyOf v=Ja k)(e2:klook ks l k=Ja p)(Q:PV->Prop)(q:Q p):wsub σ (.ref a) v Q:=by
 refine .inl ?_;show onDO _ (σ a);rw[e];show oK _ (keyOf v);rw[T];show oV Q (klook ks l k);rw[e2];exact q
inductive SubS(σ:PH)(va vi:PV)(x:D)(Fa:List Jg):Prop
 |mk (p:PV) (G:List Jg) (e:∀Q:PV->Prop,Q p->wsub σ va vi Q) (r:RdF σ x p G) (s:G.Sublist Fa):SubS σ va vi x Fa
theorem yp(C:RdF σ a A F)(V:RdF σ i J I)(h:dsub a i=Ja x):SubS σ A J x F:=by
 induction a using D.casesOn with
 |list l=>
  induction i using D.casesOn with
  |int n=>
   obtain⟨rfl,o0⟩:=V;obtain⟨a,m,G,rfl,e,T,rfl,r⟩:=C;obtain⟨j,N,Y⟩:=Qr.mp (show((place l.length n).bind λj=>l[j]?)=Ja x from h);obtain⟨p,b,v,g,H⟩:=r.get j x Y;refine⟨p,b,hH (n:=m.length) ?_ T ?_,g,H.trans<|KF _ _⟩
   ·show(match σ a with
     |some (.list l)=>Ja l.length
     |_=>Jb)=_
    rw[e]
   ·show psubO (.int n) (σ a)=_;rw[e];show((place m.length n).bind λj=>m[j]?)=Ja p;rw[r.len,N];exact v
  |_=>first|exact bnx h|exact onx h|cases h
 |tup l=>
  induction i using D.casesOn with
  |int n=>
   obtain⟨rfl,o0⟩:=V;obtain⟨m,rfl,T,r⟩:=C;obtain⟨j,N,Y⟩:=Qr.mp (show((place l.length n).bind λj=>l[j]?)=Ja x from h);obtain⟨p,b,v,g,H⟩:=r.get j x Y;refine⟨p,b,hH (n:=m.length) rfl T ?_,g,H⟩;show((place m.length n).bind λj=>m[j]?)=Ja p;rw[r.len,N];exact v
  |_=>first|exact bnx h|exact onx h|cases h
 |scr l=>
  induction i using D.casesOn with
  |int n=>
   obtain⟨rfl,o0⟩:=V;obtain⟨⟨rfl,T⟩,rfl⟩:=C;obtain⟨y,N,rfl⟩:=Qs.mp (show((place l.length n).bind λj=>l[j]?).map D.int=Ja x from h);exact⟨.int y,[],hH (n:=l.length) rfl T<|Qs.mpr ⟨y,N,rfl⟩,⟨rfl,rfl⟩,List.Sublist.refl _⟩
  |_=>first|exact bnx h|exact onx h|cases h
 |dict s l=>
  obtain⟨k,N,Y⟩:=Qr.mp (show((keyD i).bind λk=>dlook s l k)=Ja x from h);obtain⟨a,m,G,rfl,e,T,rfl,r⟩:=C;obtain⟨j,p,b,o0,o0,o0,v,g,H⟩:=r.look Y;exact⟨p,b,oy e (ma V N) v,g,H.trans<|KF _ _⟩
 |_=>first|exact bnx h|exact onx h|cases h
theorem sw(n:Nat):RdFs σ ((Qc n).map λ(i:Nat)=>D.int i) ((Qc n).map λ(i:Nat)=>PV.int i) []:=by
 generalize Qc n=l
 induction l with
 |nil=>exact⟨rfl,rfl⟩
 |cons i r h=>exact⟨_,_,[],[],rfl,rfl,⟨rfl,rfl⟩,h⟩
theorem RdFs.one1{d:D}(r:RdFs σ [d] vs F):∃v,vs=[v]/\RdF σ d v F:=by
 obtain⟨p,s,j,N,T,e,f,X,u⟩:=r;exact⟨p,by rw[T,X],by rw[e,u,QH];exact f⟩
theorem RdFs.two2{d d':D}(r:RdFs σ [d,d'] vs F):X4 λv w j N=>A4 (vs=[v,w]) (F=j++N) (RdF σ d v j) (RdF σ d' w N):=by
 obtain⟨p,s,j,N,T,e,f,M⟩:=r;obtain⟨w,X,y⟩:=M.one1;exact⟨p,w,j,N,by rw[T,X],e,f,y⟩
abbrev SrcC(σ':PH)(FF:List Jg)(K:List D->Prop)(K':List PV->(PH->Prop)->Prop):Prop:=∀x l c G,K x->RdFs σ' x l G->l.length<=lim->(∀a∈G,a∈FF)->(∀j,(∀a∈FF,j a=σ' a)->c j)->K' l c
theorem Bh{d:D}{FF:List Jg}{K:List D->Prop}{K':List PV->(PH->Prop)->Prop}(f:RdF σ' d v FF)(h:dSeq K d)(c:SrcC σ' FF K K'):src .val [v] σ' K':=by
 induction d using D.casesOn with
 |tup l=>
  obtain⟨m,u,T,r⟩:=f;rw[u];exact c l m _ _ h r T (λa H=>H) λo0 o0=>trivial
 |list l=>
  obtain⟨a,m,G,u,e,T,p,r⟩:=f;rw[u];show onL σ' (λl=>K' l λσ'=>σ' a=Ja (.list l)) (.ref a);rw[gA e];exact c l m _ G h r T (λb R=>by rw[p];exact .tail _ R) λj s=>(s a<|by rw[p];exact .head _).trans e
 |_=>exact h.elim
theorem uX:∀ {a b:List D} {l m:List PV} {F G:List Jg},RdFs σ a l F->RdFs σ b m G->∃H,RdFs σ ((a.zip b).map λp=> .tup [p.1,p.2]) ((l.zip m).map λp=> .tup [p.1,p.2]) H/\∀c∈H,c∈F\/c∈G
 |[],b=>λh k=>by obtain⟨rfl,rfl⟩:=h;exact⟨[],⟨rfl,rfl⟩,λc C=>(bQ C)⟩
 |d::s,[]=>λh k=>by
  obtain⟨rfl,rfl⟩:=k;rw[List.zip_nil_right,List.zip_nil_right];exact⟨[],⟨rfl,rfl⟩,λc C=>(bQ C)⟩
 |d::s,e::x=>λr g=>by
  obtain⟨p,I,j,t,N,Y,J,w⟩:=r;obtain⟨q,K,G1,i,P,U,V,R⟩:=g;subst N Y P U;obtain⟨H,L,E⟩:=uX w R;refine⟨(j++G1)++H,⟨.tup [p,q],_,j++G1,H,rfl,rfl,⟨[p,q],rfl,(show 2<=1000000 by decide),p,[q],j,G1,rfl,rfl,J,q,[],G1,[],rfl,(QH _).symm,V,rfl,rfl⟩,L⟩,λc C=> ?_⟩
  rcases Qn.mp C with C|C
  ·exact(Qn.mp C).imp (Qf _) (Qf _)
  ·exact(E c C).imp (Qe _) (Qe _)
theorem Bv{d d':D}{K:List D->Prop}{K':List PV->(PH->Prop)->Prop}(f:RdF σ' d v F)(o:RdF σ' d' Z I)(h:dLst (λl=>dLst (λm=>K ((l.zip m).map λp=> .tup [p.1,p.2])) d') d)(c:SrcC σ' (F++I) K K'):src .zip [v,Z] σ' K':=by
 obtain⟨l,rfl,N⟩:=fy h;obtain⟨w,rfl,Q⟩:=fy N;obtain⟨a,m,G,u,e,M,T,C⟩:=f;obtain⟨Y,S,k,g,A,J,L,r⟩:=o;obtain⟨H,O,E⟩:=uX C r;rw[u,g];show onL σ' (λl=>onL σ' (λm=>K' ((l.zip m).map λp=> .tup [p.1,p.2]) λσ'=>σ' a=Ja (.list l)/\σ' Y=Ja (.list m))<|.ref Y) (.ref a);rw[gA e,gA A];refine c _ _ _ H Q O (by rw[Qd,List.length_zip];exact Qv (Nat.min_le_left _ _) M) (λb R=> ?_) λj s=>⟨(s a<|Qf _ (by rw[T];exact .head _)).trans e,(s Y<|Qe _ (by rw[L];exact .head _)).trans A⟩
 exact(E b R).elim (λq=>Qf _<|by rw[T];exact .tail _ q) λq=>Qe _<|by rw[L];exact .tail _ q
theorem yi{FF:List Jg}{K:List D->Prop}{K':List PV->(PH->Prop)->Prop}(r:RdFs σ' ds vs FF)(h:dsrc k ds K)(c:SrcC σ' FF K K'):src k vs σ' K':=by
 induction k with
 |val=>
  obtain⟨d,rfl,i⟩:=qN h;obtain⟨v,e,f⟩:=r.one1;rw[e];exact Bh f i c
 |range=>
  obtain⟨d,rfl,i⟩:=qN h;obtain⟨n,rfl,N,p⟩:=eS i;obtain⟨v,e,f⟩:=r.one1;rw[e,f.1];exact⟨N.1,c _ _ _ [] p (sw _) (by rw[Qd,QB];exact Int.toNat_le.mpr N.2) (λa T=>(bQ T)) λo0 o0=>trivial⟩
 |zip=>
  obtain⟨d,X,rfl,i⟩:=vB h;obtain⟨v,w,j,q,L,F,f,M⟩:=r.two2;rw[L];exact Bv f M i<|F▸c
theorem p6{F:List (List Jg)}{K:List D->Prop}{K':List PV->(PH->Prop)->Prop}(r:ERs σ fp σ' ds vs F)(h:dsrc k (fsts ds) K)
  (c:∀xs l chk G,K xs->RdFs σ' xs l G->l.length<=lim->(∀a∈G,a∈F.flatten)->(∀j,(∀a∈F.flatten,j a=σ' a)->chk j)->K' l chk):src k vs σ' K':=yi r.rds h c
end
section
variable{σ σ1 σ2 σ':PH}{fp:String->List Jg}{Δ:DRho}{ρ:Rho}
theorem v0{ns:List String}{f:String->List Jg}(h:PartOK σ1 f u F)(x:Ext σ σ1)(E:PartOK σ fp t G)(w:∀y a,a∈f y->(y∈ns/\a∈G)\/(y∉ns/\a∈fp y)):PartOK σ fp (tout ns t u) F:=by
 induction u with
 |none=>exact⟨λo0=>⟨(h.own rfl).1,λa T=>x.new ((h.own rfl).2 a T)⟩,λs e=>nomatch e⟩
 |some s=>
  refine⟨λe=> ?_,λzs e a T=> ?_⟩
  ·exact sn (mZ e).1
  obtain⟨m,M⟩:=sR (a:=Ja<|s.filter λx=> !ns.contains x) (b:=t) e
  rcases h.al s rfl a T with q|⟨y,W,q⟩
  ·exact .inl<|x.new q
  ·rcases w y a q with⟨o0,q⟩|⟨c,Z⟩
   ·exact(E.wide M).al zs rfl a q
   ·exact .inr ⟨y,m _ rfl y<|Qm.mpr ⟨W,by simpa using c⟩,Z⟩
theorem ov{E:Tag}{tst:DRho->(Bool->Prop)->Prop}{el:DRho->DQ->Prop}{s:Rho->PH->(Bool->PH->Prop)->Prop}{g:Rho->PH->Post->Prop}{chk:PH->Prop}
  (env:EnvE σ Δ ρ fp)(z:PartOK σ fp E L)
  (X:∀P ρ' f σ1 K K',EnvE σ1 P ρ' f->tst P K->(∀b σ2,K b->Ext σ1 σ2->K' b σ2)->s ρ' σ1 K')
  (B:∀P ρ' f σ1 K K',EnvE σ1 P ρ' f->el P K->(∀d t v σ2 F,K d t->ER σ1 f σ2 d t v F->K' v σ2)->g ρ' σ1 K'):
  ∀ (xs:List D) (vs:List PV) (Gx:List Jg) (m:List D) (c:List PV) (O:List Jg) (t:Tag) (σ1:PH) (K:List D->Tag->Prop) (K':List PV->PH->Prop),RdFs σ1 xs vs Gx->(∀a∈Gx,a∈L)->Ext σ σ1->(∀σ2,Ext σ1 σ2->chk σ2)->
   RdFs σ1 m c O->PartOK σ fp t O->c.length+vs.length<=lim->dcomp tg Δ E tst el xs m t K->
   (∀m t c σ2 O,K m t->Ext σ σ2->RdFs σ2 m c O->PartOK σ fp t O->c.length<=lim->K' c σ2)->f5 chk tg ρ s g vs c σ1 K':=by
 intro xs
 induction xs with
 |nil=>
  intro vs Gx m c O t σ1 K K' r _ x Z C Y H h k;obtain⟨rfl,o0⟩:=r;exact⟨Z σ1<|.refl _,k _ _ _ _ _ h x C Y H⟩
 |cons d ds A=>
  intro vs Gx m c O t σ1 K K' R S x Z C Y H h k;obtain⟨p,I,F1,i,e1,w,r1,M⟩:=R;subst e1 w;refine⟨Z σ1<|.refl _,?_⟩;obtain⟨P,e,h⟩:=fV h;obtain⟨ρ',f,Q,n,b3⟩:=(env.ext x).bindC r1 e;rw[Q];refine X P ρ' f σ1 _ _ n h λb σ2 h W=> ?_;have U:c.length+(I.length+1)<=lim:=H
  induction b with
  |false=>exact A I i m c O t σ2 K K' (M.ext W) (λa T=>S a<|Qe _ T) (x.trans W) (λV J=>Z V<|W.trans J) (C.ext W) Y (by exact Kj U) h k
  |true=>
   refine B P ρ' f σ2 _ _ (n.ext W) h λe u v V F h j=> ?_;have J:=W.trans j.ext;have o:PartOK σ fp (tout tg.names E u) F:=v0 j.part (x.trans W) z λy a T=>(b3 y a T).imp_left λq=>⟨q.1,S a<|Qf _ q.2⟩
   refine A I i (m++[e]) (c++[v]) (O++F) (tj t<|tout tg.names E u) V K K' (M.ext J) (λa T=>S a<|Qe _ T) (x.trans J) (λN x4=>Z N<|J.trans x4)
    ((C.ext J).app ⟨v,[],F,[],rfl,(QH _).symm,j.rd,rfl,rfl⟩) (Y.join o λo0 w a T hb=> ?_) (by rw[QG,WH];exact zle (QT<|QL _ _ _) U) h k
   have hu:u=Jb:=by
    induction u with
    |none=>rfl
    |some xs=>exact sn (mZ w).1
   obtain⟨l,el⟩:=(C.ext W).dom a T;have:=(j.part.own hu).2 a hb;exact sn<|el.symm.trans this
end
theorem ERs.from{fp:String->List Jg}(h:ERs σ1 fp σ' ds vs F)(x:Ext σ σ1):ERs σ fp σ' ds vs F:=by
 induction h with
 |nil=>exact .nil
 |cons r p q h i=>exact .cons r (p.from x) q i
theorem ERs.mem{fp:String->List Jg}{ds:List (D×Tag)}(h:ERs σ fp σ' ds vs F):∀p∈ds.zip F,PartOK σ fp p.1.2 p.2:=by
 induction h with
 |nil=>intro p K;cases K
 |cons r p q h i=>
  intro x hx;cases hx with
  |head=>exact p
  |tail _ hx=>exact i x hx
theorem nI{fp:String->List Jg}{d:D}(env:EnvE σ Δ ρ fp)(r:ER σ fp σ1 d t v F)(x:Ext σ1 σ2)(s:ERs σ1 fp σ2 ds vs i):
  ERs σ fp σ2 ((d,t)::ds) (v::vs) (F::i):=
 .cons (r.rd.ext x) r.part (λp h e=>r.part.apart env.dom r.ext r.rd.dom (s.mem p h) e) (s.from r.ext)
section
variable{G:Gx}{cv:Cl}
theorem Aq:DOK G cv (.glob x):=λΔ ρ fp σ Q X r H n h k N=>by
 have h:dglob Q (G.glob x):=h;show oV _ (G.glob x)
 induction e:G.glob x with
 |none=>rw[e] at h;exact h.elim
 |some v=>
  rw[e] at h
  induction v using PV.casesOn with
  |int i=>exact k _ _ _ _ _ h<|.at0 (.refl σ) ⟨rfl,rfl⟩
  |str i=>exact k _ _ _ _ _ h<|.at0 (.refl σ) ⟨rfl,rfl⟩
  |_=>exact h.elim
theorem Bd:DOK G cv (.loc x):=λΔ ρ fp σ Q X t H n h k N=>by
 obtain⟨⟨d,b⟩,e,h⟩:=eh (show dOE (λp=>Q p.1<|tg0 p.1 (Ja [x])) (Δ.get x) from h);obtain⟨v,g,r⟩:=n.at_ x d b e;show oV _ (ρ.get x);rw[g];refine k _ _ _ _ _ h ⟨r,.refl σ,PartOK.tg0 ⟨λe=>(sn e),λs e a T=> ?_⟩ r⟩;obtain rfl:=sj e;exact .inr ⟨x,.head _,T⟩
theorem AD(T:DOK G cv a)(R:DOK G cv b):DOK G cv (.bin o a b):=λΔ ρ fp σ Q X M H n h k N=>
 T Δ ρ fp σ _ X _ H n h (λu l v σ1 O h r=>R Δ ρ fp σ1 _ X _ H (n.ext r.ext) h (λZ t m σ2 I h D=>
  wJ (r.ext.trans D.ext) (r.rd.ext D.ext) D.rd r.part (D.part.from r.ext) (λe o0=>r.part.apart n.dom r.ext r.rd.dom D.part (.inl e)) h k) λc d ws σ' F q x=>N c d ws σ' F q (x.from r.ext)) N
theorem AV(T:DOK G cv a):DOK G cv (.not_ a):=λΔ ρ fp σ Q X M H e h k x=>
 T Δ ρ fp σ _ X _ H e h (λd t v σ1 F h r=>by
  obtain⟨i,rfl,h⟩:=eH h;rw[r.rd.1];exact k _ _ _ _ _ h (.at0 r.ext ⟨rfl,rfl⟩)) x
theorem A1(T:DOK G cv a)(R:DOK G cv b):DOK G cv (.and_ a b):=λΔ ρ fp σ Q X M H e h k N=>
 T Δ ρ fp σ _ X _ H e h (λu l A σ1 O h C=>by
  obtain⟨i,rfl,h⟩:=eH h;rw[C.rd.1]
  induction i with
  |true=>exact R Δ ρ fp σ1 _ X _ H (e.ext C.ext) h (λd t v σ2 F h r=>k _ _ _ _ _ h<|r.from C.ext) λc s ws σ' F q x=>N c s ws σ' F q<|x.from C.ext
  |false=>exact k _ _ _ _ _ h (.at0 C.ext ⟨rfl,rfl⟩)) N
theorem BX(T:DOK G cv a)(R:DOK G cv b):DOK G cv (.or_ a b):=λΔ ρ fp σ Q X M H e h k N=>
 T Δ ρ fp σ _ X _ H e h (λu l A σ1 O h C=>by
  obtain⟨i,rfl,h⟩:=eH h;rw[C.rd.1]
  induction i with
  |false=>exact R Δ ρ fp σ1 _ X _ H (e.ext C.ext) h (λd t v σ2 F h r=>k _ _ _ _ _ h<|r.from C.ext) λc s ws σ' F q x=>N c s ws σ' F q<|x.from C.ext
  |true=>exact k _ _ _ _ _ h (.at0 C.ext ⟨rfl,rfl⟩)) N
theorem lF{d:D}{v:PV}(r:RdF σ d v F)(h:iW d=Jd):v.isNone=d.isNone:=by
 induction d using D.casesOn with
 |none=>rw[r.1];rfl
 |bool=>rw[r.1];rfl
 |int=>rw[r.1];rfl
 |str=>rw[r.1];rfl
 |scr=>rw[r.1.1];rfl
 |hole=>exact tf h
 |tup l=>obtain⟨m,rfl,o0⟩:=r;rfl
 |list l=>obtain⟨a,m,G,rfl,o0⟩:=r;rfl
 |dict k l=>obtain⟨a,m,G,rfl,o0⟩:=r;rfl
 |inst c l=>obtain⟨a,d,m,rfl,o0⟩:=r;rfl
theorem vj(T:DOK G cv a):DOK G cv (.isNone a):=λΔ ρ fp σ Q X M H e h k x=>
 T Δ ρ fp σ _ X _ H e h (λd t v σ1 F h r=>by
  rw[lF r.rd h.1];exact k _ _ _ _ _ h.2 (.at0 r.ext ⟨rfl,rfl⟩)) x
theorem su(T:DOK G cv a):DOK G cv (.notNone a):=λΔ ρ fp σ Q X M H e h k x=>
 T Δ ρ fp σ _ X _ H e h (λd t v σ1 F h r=>by
  rw[lF r.rd h.1];exact k _ _ _ _ _ h.2 (.at0 r.ext ⟨rfl,rfl⟩)) x
theorem Bl(T:DOK G cv a)(R:DOK G cv b):DOK G cv (.cmp o a b):=λΔ ρ fp σ Q X M H e h k N=>
 T Δ ρ fp σ _ X _ H e h (λu l v σ1 O h C=>R Δ ρ fp σ1 _ X _ H (e.ext C.ext) h (λZ t m σ2 I h D=>
  mn (C.rd.ext D.ext) D.rd h λr q=>k _ _ _ _ _ q (.at0 (C.ext.trans D.ext) ⟨rfl,rfl⟩)) λc d ws σ' F q x=>N c d ws σ' F q (x.from C.ext)) N
theorem zG(T:DOK G cv a)(R:DOK G cv b)(Z:DOK G cv c):DOK G cv (.cmp2 a o b P c):=λΔ ρ fp σ Q X w H e h k N=>
 T Δ ρ fp σ _ X _ H e h (λM B v σ1 O h C=>R Δ ρ fp σ1 _ X _ H (e.ext C.ext) h (λi l m σ2 I h D=>
  mn (C.rd.ext D.ext) D.rd h λr q=>by
   have W:=C.ext.trans D.ext
   induction r with
   |false=>exact k _ _ _ _ _ q<|.at0 W ⟨rfl,rfl⟩
   |true=>exact Z Δ ρ fp σ2 _ X _ H (e.ext W) q (λz t j p g h u=>mn (D.rd.ext u.ext) u.rd h λr q=>k _ _ _ _ _ q (.at0 (W.trans u.ext) ⟨rfl,rfl⟩)) λc d ws σ' F q x=>N c d ws σ' F q (x.from W)) λc d ws σ' F q x=>N c d ws σ' F q (x.from C.ext)) N
theorem Br(T:DOKs G cv l):DOK G cv (.tup l):=λΔ ρ fp σ Q X t H e h k N=>
 T Δ ρ fp σ _ X _ H e h (λd v σ1 F h x r=>k _ _ _ _ _ h.2 ⟨⟨v,rfl,by rw[r.rds.len];exact h.1,r.rds⟩,x,r.part⟩) N
theorem zw(T:DOKs G cv l):DOK G cv (.list l):=λΔ ρ fp σ Q X t H e h k N=>
 T Δ ρ fp σ _ X _ H e h (λd v σ1 F h x r=>et x r.rds (by rw[r.rds.len];exact h.1) r.part h.2 k) N
theorem By(T:DOK G cv a)(R:DOK G cv i):DOK G cv (.sub a i):=λΔ ρ fp σ Q X w H n h k N=>
 T Δ ρ fp σ _ X _ H n h (λM l v σ1 O h r=>R Δ ρ fp σ1 _ X _ H (n.ext r.ext) h (λZ t m σ2 I h b=>by
  obtain⟨d,e,h⟩:=gS h;obtain⟨p,F,L,u,V⟩:=yp (r.rd.ext b.ext) b.rd e;exact L _ (k _ _ _ _ _ h ⟨u,r.ext.trans b.ext,(r.part.sub V).tg0 u⟩)) λc s ws σ' F q x=>N c s ws σ' F q (x.from r.ext)) N
theorem pr{K:PH->Prop}(h:∀σ1,Ext σ σ1->K σ1):whid k σ K:=by
 induction k with
 |zip=>exact λz v=>h _<|Ext.set v _
 |_=>exact h σ<|.refl σ
theorem uP{σ1 σ2 σ3:PH}{F:List (List Jg)}{fp:String->List Jg}{chk:PH->Prop}(r:ERs σ fp σ1 ds vs F)(c:∀j,(∀a∈F.flatten,j a=σ1 a)->chk j)(x:Ext σ1 σ2):chk σ2:=
 c σ2 λa h=>by obtain⟨l,e⟩:=r.rds.dom a h;exact(x a _ e).trans e.symm
theorem yG(c:DOK G cv g)(hi:DOKs G cv i):DOK G cv (.comp g tg k i):=λΔ ρ fp σ Q X M H e h n N=>
 ⟨h.1,hi Δ ρ fp σ _ X _ H e h.2 (λd j σ1 w h x r=>p6 r h λs l z Gx h U T S Z=>⟨T,pr λσ2 W=>
  ov e r.part (λP O f σ1 K C o0 h k=>k _ _ h<|.refl _) (λP O f σ1 K C v h k=>c P O f σ1 K _ C _ v h k λo0 o0 o0 o0 o0 q o0=>q)
   s l Gx [] [] [] Jb σ2 _ _ (U.ext W) S (x.trans W) (λD J=>uP (σ3:=D) r Z (W.trans J)) ⟨rfl,rfl⟩ .nil (by rw[WA,Wx];exact T) h λb t a σ2 F h x r p T=>et x r T p h n⟩) N⟩
theorem tC(V:DOK G cv g)(I:DOK G cv c)(hi:DOKs G cv i):DOK G cv (.compIf g tg k i c):=λΔ ρ fp σ Q X o H e h n N=>
 ⟨h.1,hi Δ ρ fp σ _ X _ H e h.2 (λj L σ1 w h x r=>p6 r h λs l z Gx h U T S Z=>⟨T,pr λσ2 W=>
  ov e r.part (λP O f σ1 K C Y h k=>I P O f σ1 _ _ _ _ Y h (λd t v σ2 F h r=>by
    obtain⟨b,rfl,h⟩:=eH h;rw[r.rd.1];exact k _ _ h r.ext) λo0 o0 o0 o0 o0 q o0=>q) (λP O f σ1 K C Y h k=>V P O f σ1 K _ C _ Y h k λo0 o0 o0 o0 o0 q o0=>q)
   s l Gx [] [] [] Jb σ2 _ _ (U.ext W) S (x.trans W) (λD J=>uP (σ3:=D) r Z (W.trans J)) ⟨rfl,rfl⟩ .nil (by rw[WA,Wx];exact T) h λu t a σ2 M h x r p T=>et x r T p h n⟩) N⟩
theorem ol{f:String}{ds:List (D×Tag)}{vs:List PV}{s:List (List Jg)}{σ σ1:PH}{fp:String->List Jg}{Q:DQ}{X:DX}{Q':Post}{H:XPost}(h:aQ cv f (flags ds) (λd b=>Q d (tg0 d (cond b Jb (tj (Ja []) (tjs ds))))) X)(x:Ext σ σ1)(r:ERs σ fp σ1 ds vs s)
  (k:∀d t v σ' F,Q d t->ER σ fp σ' d t v F->Q' v σ')(N:∀c ds ws σ' F,X c ds->XOK σ σ' ds ws F->H ⟨c,ws⟩ σ'):cv f vs σ1 Q' H:=
 h σ1 vs s Q' H r.args (λd b v σ2 F q C=>by
   have W:Ext σ σ2:=λa o e=>C.kept a o (x a o e) λw=>by have:=r.owned a w;exact sn<|e.symm.trans this
   refine k _ _ _ _ _ q ⟨C.rd,W,PartOK.tg0 ?_ C.rd⟩
   induction b with
   |true=>exact⟨λo0=>⟨(C.own rfl).1,λa T=>((C.own rfl).2 a T).elim x.new (r.owned a)⟩,λP e=>(ns e)⟩
   |false=>
    obtain⟨y,p,m⟩:=wG [] (tjs ds);show PartOK σ fp (tj (Ja []) (tjs ds)) F;rw[p];refine⟨λe=>(sn e),λzs e a T=> ?_⟩;obtain rfl:=sj e;exact(C.al a T).elim (λq=> .inl (x.new q)) λq=>(r.part.wide m).al y rfl a q)
  λc U ws σ2 F q E=>N c U ws σ2 F q ⟨E.rd,λa o e=>E.kept a o (x a o e) (λw=>by have:=r.owned a w;exact sn<|e.symm.trans this),E.nd,λa T=>(E.own a T).elim x.new (r.owned a)⟩
theorem zS{args:List E}(a:DOKs G cv args):DOK G cv (.call f args):=λΔ ρ fp σ Q X t H e h k N=>
 ⟨h.1,a Δ ρ fp σ _ X _ H e h.2 (λd v σ1 F h x r=>ol h x r k N) N⟩
theorem z6{d:D}(r:RdF σ d v F)(h:dIns c d):onI c σ v:=by
 induction d using D.casesOn with
 |inst Q l=>
  obtain rfl:Q=c:=h;obtain⟨a,b,m,rfl,e,w,o0⟩:=r;show onIO Q σ (σ a);rw[e];show onFd Q (σ b);rw[w];rfl
 |_=>exact h.elim
theorem xy{args:List E}(w:DOK G cv o)(a:DOKs G cv args):DOK G cv (.mcall c f o args):=λΔ ρ fp σ Q X M H e h k N=>
 ⟨h.1,w Δ ρ fp σ _ X _ H e h.2 (λd t v σ1 F h r=>⟨z6 r.rd h.1,a Δ ρ fp σ1 _ X _ H (e.ext r.ext) h.2 (λs J σ2 i h x j=>ol h (r.ext.trans x) (nI e r x j) k N) λc s ws σ' F q x=>N c s ws σ' F q<|x.from r.ext⟩) N⟩
theorem BW{args:List E}(a:DOKs G cv args):DOK G cv (.bi b args):=λΔ ρ fp σ Q X t H e h k N=>
 ⟨h.1,a Δ ρ fp σ _ X _ H e h.2 (λd v σ1 F h x r=>zh x r h k) N⟩
theorem AN(T:DOK G cv a):DOK G cv (.isi a t):=λΔ ρ fp σ Q X M H n h k x=>
 ⟨h.1,T Δ ρ fp σ _ X _ H n h.2 (λd l v σ1 F h r=>by
  obtain⟨b,e,h⟩:=t2 h;rw[yR r.rd e];exact k _ _ _ _ _ h (.at0 r.ext ⟨rfl,rfl⟩)) x⟩
theorem jP(h:RdFs σ ds l F)(e:dlook ks ds k=Jb):klook ks l k=Jb:=by
 unfold klook;unfold dlook at e
 induction T:kidx ks k with
 |none=>rfl
 |some j=>
  rw[T] at e;show l[j]? =Jb;have e:ds[j]? =Jb:=e;rw[WU] at e ⊢;rw[h.len];exact e
theorem Au{d y:D}(r:RdF σ d v F)(h:dfld G f d=Ja y):X2 λp z=>A3 (pattr G σ f v=Ja p) (RdF σ y p z) (z.Sublist F):=by
 induction d using D.casesOn with
 |inst c l=>
  obtain⟨a,b,m,rfl,T,e,r⟩:=r;obtain⟨j,N,Y⟩:=Qr.mp (show(((G.flds c).idxOf? f).bind λj=>l[j]?)=Ja y from h);obtain⟨p,z,P,g,H⟩:=r.get j y Y;refine⟨p,z,?_,g,H⟩;show pfld G σ f (σ a)=_;rw[T];show pfd G f (σ b)=_;rw[e];exact Qr.mpr ⟨j,N,P⟩
 |_=>first|exact bnx h|exact onx h|cases h
theorem xv:DOK G cv .dict0:=λΔ ρ fp σ Q X r H e h k x=>
 ⟨h.1,λa T=>k _ _ _ _ [a] h.2 ⟨⟨a,[],[],rfl,PH.set_same _ _ _,⟨QV _,rfl⟩,rfl,rfl,rfl⟩,Ext.set T _,PartOK.nil.cons T λq=>(bQ q)⟩⟩
theorem Be(ha:DOK G cv a)(hb:DOK G cv i):DOK G cv (.get a i):=λΔ ρ fp σ Q X Q' X' env h k kx=>
 ha Δ ρ fp σ _ X _ X' env h (λda ta va σ1 Fa h ra=>by
  obtain⟨ks,l,rfl,h⟩:=oW h;obtain⟨b,m,G0,rfl,e,hl,rfl,r⟩:=ra.rd;have at_:∀ {σ2:PH} {K:List (List KA)->List PV->Prop},Ext σ1 σ2->K ks m->onD σ2 K (.ref b):=λ{σ2 K} x h=>by
   show onDO K (σ2 b);rw[x b _ e];exact h
  refine⟨at_ (.refl _) trivial,hb Δ ρ fp σ1 _ X _ X' (env.ext ra.ext) h (λdb tb vb σ2 Fb h rb=>at_ rb.ext<|tX rb.rd h λx h=> ?_) λc ds ws σ' F q x=>kx c ds ws σ' F q<|x.from ra.ext⟩;have r2:=r.ext rb.ext
  induction e:dlook ks l x with
  |some d=>
   rw[e] at h;obtain⟨j,p,G',o0,o0,o0,g1,g2,g3⟩:=r2.look e;rw[g1];exact k _ _ _ _ _ h ⟨g2,ra.ext.trans rb.ext,(ra.part.sub<|g3.trans (KF _ _)).tg0 g2⟩
  |none=>
   rw[e] at h;rw[jP r2 e];exact et (ra.ext.trans rb.ext) (ds:=[]) (l:=[]) (F:=[]) ⟨rfl,rfl⟩ (QV _) .nil h k) kx
theorem zB:DOK G cv (.attr x f):=λΔ ρ fp σ Q X t H n h k N=>by
 obtain⟨⟨d,b⟩,e,h⟩:=eh (show dOE (λp=>dOD (λd=>Q d<|tg0 d (Ja [x]))<|dfld G f p.1) (Δ.get x) from h);obtain⟨y,w,h⟩:=gS h;obtain⟨v,g,r⟩:=n.at_ x d b e;show oV _ (ρ.get x);rw[g];obtain⟨p,F,W,M,s⟩:=Au r w;show oV _ (pattr G σ f v);rw[W];refine k _ _ _ _ _ h ⟨M,.refl σ,PartOK.tg0 ⟨λe=>(sn e),λP e a T=> ?_⟩ M⟩;obtain rfl:=sj e;exact .inr ⟨x,.head _,s.subset T⟩
mutual
theorem bo:∀e:E,DOK G cv e
 | .none=>λΔ ρ fp σ Q X Q' H env h k N=>k _ _ _ _ _ h<|.at0 (.refl σ) ⟨rfl,rfl⟩
 | .bool _=>λΔ ρ fp σ Q X Q' H env h k N=>k _ _ _ _ _ h<|.at0 (.refl σ) ⟨rfl,rfl⟩
 | .int _=>λΔ ρ fp σ Q X Q' H env h k N=>k _ _ _ _ _ h<|.at0 (.refl σ) ⟨rfl,rfl⟩
 | .str _=>λΔ ρ fp σ Q X Q' H env h k N=>k _ _ _ _ _ h<|.at0 (.refl σ) ⟨rfl,rfl⟩
 | .loc _=>Bd
 | .glob _=>Aq
 | .bin _ a b=>AD (bo a)<|bo b
 | .not_ a=>AV<|bo a
 | .and_ a b=>A1 (bo a)<|bo b
 | .or_ a b=>BX (bo a)<|bo b
 | .isNone a=>vj<|bo a
 | .notNone a=>su<|bo a
 | .cmp _ a b=>Bl (bo a)<|bo b
 | .cmp2 a _ b _ c=>zG (bo a) (bo b)<|bo c
 | .tup l=>Br<|dh l
 | .list l=>zw<|dh l
 | .sub a b=>By (bo a)<|bo b
 | .comp e _ _ l=>yG (bo e)<|dh l
 | .compIf e _ _ l c=>tC (bo e) (bo c)<|dh l
 | .call _ l=>zS<|dh l
 | .bi _ l=>BW<|dh l
 | .isi a _=>AN<|bo a
 | .meth .. =>λΔ ρ fp σ Q X Q' H env h k N=>h.elim
 | .dict0=>xv
 | .get a b=>Be (bo a)<|bo b
 | .sd .. =>λΔ ρ fp σ Q X Q' H env h k N=>h.elim
 | .attr _ _=>zB
 | .mcall _ _ o l=>xy (bo o)<|dh l
theorem dh:∀es:List E,DOKs G cv es
 |[]=>λΔ ρ fp σ Q X Q' H env h k N=>k _ _ _ _ h (.refl σ) .nil
 |e::es=>λΔ ρ fp σ Q X Q' H env h k N=>bo e Δ ρ fp σ _ X _ H env h (λd t v σ1 F h r=>
   dh es Δ ρ fp σ1 _ X _ H (env.ext r.ext) h (λds vs σ2 i h x s=>k _ _ _ _ h (r.ext.trans x) (nI env r x s)) λc ds ws σ' F q x=>N c ds ws σ' F q (x.from r.ext)) N
end
end
set_option genCtorIdx false in
inductive DFl where
 |next
 |ret(d:D)(b:Bool)
abbrev bR:=DFl->DRho->Prop
abbrev DSX:=String->List D->DRho->Prop
noncomputable def locOf:E->Option String
 | .loc x=>Ja x
 |_=>Jb
mutual
noncomputable def dwm(G:Gx)(c:DCl)(z:DRho):E->DRho->(D->DRho->Prop)->Prop
 | .loc x,L,Q=>dOE (λp=>cond p.1.atom (Q p.1 L) (cond p.2 (Q p.1 (L.put x (.hole,Jc))) (Q .hole L))) (L.get x)
 | .tup l,L,Q=>dwms G c z l L (λds P=>ds.length<=lim/\Q (.tup ds) P)
 |e,L,Q=>dwe G c e z (λd t=>t=Jb/\Q d L) λo0 o0=>False
noncomputable def dwms(G:Gx)(c:DCl)(z:DRho):List E->DRho->(List D->DRho->Prop)->Prop
 |[],L,Q=>Q [] L
 |e::es,L,Q=>dwm G c z e L (λd i=>dwms G c z es i (λds J=>Q (d::ds) J))
end
noncomputable def isScr:D->Bool
 | .scr _=>Jc
 |_=>Jd
noncomputable def dpath(G:Gx)(c:DCl):E->DRho->(String->List D->D->Prop)->DX->Prop
 | .loc x,L,Q,_=>dOE (λp=>p.2=Jc/\Q x [] p.1) (L.get x)
 | .sub a i,L,Q,X=>dpath G c a L (λx s n=>dwe G c i L (λj o0=>isScr n=Jd/\dOD (λd=>Q x (s++[j]) d) (dsub n j)) X) X
 |_,_,_,_=>False
def dset1(i:D)(f:D->Option D):D->Option D
 | .list l=>match i with
  | .int n=>(place l.length n).bind λj=>(l[j]?).bind λx=>(f x).map λy=> .list (l.set j y)
  |_=>Jb
 | .tup l=>match i with
  | .int n=>(place l.length n).bind λj=>(l[j]?).bind λx=>(f x).map λy=> .tup (l.set j y)
  |_=>Jb
 | .dict s l=>(keyD i).bind λk=>(kidx s k).bind λj=>(l[j]?).bind λx=>(f x).map λy=> .dict s (l.set j y)
 |_=>Jb
noncomputable def updp:List D->(D->Option D)->D->Option D
 |[],f=>f
 |i::is,f=>dset1 i<|updp is f
def dput(L:DRho)(x:String)(ps:List D)(dn':D)(K:DRho->Prop):Prop:=
 dOE (λp=>dOD (λd=>K<|L.put x (d,Jc))<|updp ps (λo0=>Ja dn') p.1) (L.get x)
noncomputable def donFl(K:DRho->Prop)(Q:bR):bR
 | .next,L=>K L
 | .ret d b,L=>Q (.ret d b) L
noncomputable def gk(tg:Tg)(body:DRho->bR->Prop)(Q:bR):List D->DRho->Prop
 |[],L=>Q .next L
 |x::s,L=>dOR (λP=>body P (donFl (λJ=>gk tg body Q s J) Q)) (dK tg x x.atom L)
noncomputable def hA(tg:Tg)(body:DRho->bR->Prop)(Q:bR):List D->DRho->Prop
 |[],L=>Q .next L
 |x::s,L=>dOR (λP=>body P (donFl (λJ=>hA tg body Q s J) Q)) (dK tg x Jc L)
def dmvF(G:Gx)(c:DCl)(k:IK)(L:DRho)(K:List D->DRho->Prop):List E->Prop
 |[e]=>k= .val/\dpath G c e L (λx o0 d=>dLst (λl=>K l (L.put x (.hole,Jc))) d) λo0 o0=>False
 |_=>False
def dmeth(m:Me)(args:List D)(n:D)(K:D->Prop):Prop:=
 match m with
 | .append=>match args with
  |[d]=>dLst (λl=>l.length<lim/\K (.list<|l++[d])) n
  |_=>False
def drecv(m:Me)(d:D):Prop:=
 match m with
 |_=>dLst (λo0=>True) d
noncomputable def ownD:Option (D×Bool)->Bool
 |some (d,b)=> !d.atom&&b
 |none=>Jd
def splO(L:DRho)(r:List E)(k:Option (List E×String×List E)):Option String->Option (List E×String×List E)
 |some x=>cond (ownD<|L.get x) (Ja ([],x,r)) k
 |none=>k
noncomputable def spl(L:DRho):List E->Option (List E×String×List E)
 |[]=>Jb
 |e::r=>splO L r ((spl L r).map λq=>(e::q.1,q.2)) (locOf e)
def offT(x:String):Tag->Bool
 |none=>Jc
 |some s=> !hasS s x
def offs(x:String)(vs:List (D×Tag)):Bool:=vs.all λp=>offT x p.2
noncomputable abbrev lent(vs:List (D×Tag)):List (D×Bool):=vs.map λp=>(p.1,Jd)
def dio(G:Gx)(c:DCl)(f:String)(L:DRho)(K:DRho->Prop):Option (List E×String×List E)->Prop
 |some (a,x,b)=>G.fn f=Jc/\dwes G c a L (λv=>offs x v=Jc/\dOE (λp=>p.2=Jc/\dwes G c b L (λq=>offs x q=Jc/\
   c.io f v.length (lent v++(p.1,Jc)::lent q) λd=>K (L.put x (d,Jc))) λo0 o0=>False) (L.get x)) λo0 o0=>False
 |none=>False
def dsetI(n i d:D)(K:D->Prop):Prop:=
 match n with
 | .list l=>dInt (λk=>oNat (λj=>K (.list (l.set j d))) (place l.length k)) i
 | .dict s l=>l.length<lim/\oK (λk=>K (dkset s l k d)) (keyD i)
 |_=>False
def dens(ks:List (List KA))(l:List D)(k:List KA):D:=match dlook ks l k with
 |some _=> .dict ks l
 |none=> .dict (ks++[k]) (l++[.list []])
def dsd(G:Gx)(c:DCl)(m:Me)(args:List E)(L:DRho)(K:DRho->Prop)(x:String)(k:E):Prop:=
 dOE (λp=>p.2=Jc/\dDct (λs l=>dwe G c k L (λj o0=>l.length<lim/\oK (λkey=>(λZ=>dOD (λr=>drecv m r/\dwes G c args (L.put x (Z,Jc)) (λv=>tjs v=Jb/\dmeth m (fsts v) r λn=>dOD (λd=>K<|L.put x (d,Jc))<|dset1 j (λo0=>Ja n) Z) λo0 o0=>False)<|dsub Z j)<|dens s l key) (keyD j)) λo0 o0=>False) p.1) (L.get x)
noncomputable def sdOf:E->Option (E×E)
 | .sd a k=>Ja (a,k)
 |_=>Jb
noncomputable def dsdL(G:Gx)(c:DCl)(m:Me)(args:List E)(L:DRho)(K:DRho->Prop)(k:E):Option String->Prop
 |some x=>dsd G c m args L K x k
 |none=>False
def dmeE(G:Gx)(c:DCl)(m:Me)(args:List E)(L:DRho)(K:DRho->Prop)(o:E):Option String->Option (E×E)->Prop
 |some x,_=>dOE (λp=>drecv m p.1) (L.get x)/\dwms G c L args L (λs i=>dOE (λp=>p.2=Jc/\dmeth m s p.1 λd=>K (i.put x (d,Jc))) (i.get x))
 |none,Ja a=>dsdL G c m args L K a.2<|locOf a.1
 |none,Jb=>dpath G c o L (λx I r=>drecv m r/\dwes G c args L (λv=>tjs v=Jb/\dmeth m (fsts v) r λn=>dput L x I n K) λo0 o0=>False) λo0 o0=>False
def dexpr(G:Gx)(M:DCl):E->DRho->(DRho->Prop)->DSX->Prop
 | .meth o m args,L,K,X=>dmeE G M m args L K o (locOf o)<|sdOf o
 | .call f args,L,K,X=>dio G M f L K (spl L args)\/dwe G M (.call f args) L (λo0 o0=>K L) λc l=>X c l L
 |e,L,K,X=>dwe G M e L (λo0 o0=>K L) λc l=>X c l L
mutual
noncomputable def S.noas(x:String):S->Bool
 | .assign tg _=> !tg.names.contains x
 | .if_ _ b o=>S.noass x b&&S.noass x o
 | .for_ tg _ _ b=> !tg.names.contains x&&S.noass x b
 | .while_ _ b=>S.noass x b
 | .try1 .. =>Jd
 |_=>Jc
noncomputable def S.noass(x:String):List S->Bool
 |[]=>Jc
 |s::r=>S.noas x s&&S.noass x r
end
noncomputable def dwhGo(tst:DRho->(Bool->Prop)->Prop)(body:DRho->bR->Prop)(Q:bR):Nat->DRho->Prop
 |0,_=>False
 |n+1,L=>tst L λb=>cond b (body L (donFl (λJ=>dwhGo tst body Q n J) Q)) (Q .next L)
mutual
noncomputable def dws(G:Gx)(M f:DCl):S->DRho->bR->DSX->Prop
 | .assign (.name x) e,L,Q,X=>dwe G M e L (λd t=>Q .next ((L.frz t).put x (d,t.isNone))) λc l=>X c l L
 | .assign (.tup xs) e,L,Q,X=>G.calm=Jc/\dwe G M e L (λd t=>dOR (λP=>Q .next P) (dK (.tup xs) d t.isNone (L.frz t))) λc l=>X c l L
 | .setIdx o i e,L,Q,X=>dwm G M L e L (λd u=>dpath G M o u (λx ps n=>dwe G M i u (λj o0=>dsetI n j d λdn'=>dput u x ps dn' λP=>Q .next P) λo0 o0=>False) λo0 o0=>False)
 | .expr e,L,Q,X=>dexpr G M e L (λP=>Q .next P) X
 | .ret e,L,Q,X=>dwm G M L e L (λd P=>Q (.ret d Jc) P)\/dwe G M e L (λd t=>Q (.ret d t.isNone) L) λc l=>X c l L
 | .if_ t b o,L,Q,X=>dwe G M t L (λv o0=>dBool (λc=>cond c (dwss G M f b L Q X) (dwss G M f o L Q X)) v) λc l=>X c l L
 | .for_ tg k g b,L,Q,X=>G.calm=Jc/\(dwes G M g L (λvs=>dsrc k (fsts vs) λxs=>gk tg (λL K=>dwss G M f b L K λo0 o0 o0=>False) Q xs (L.frz (tjs vs))) (λc l=>X c l L)\/dmvF G M k L (hA tg (λL K=>dwss G M f b L K λo0 o0 o0=>False) Q) g)
 | .while_ t b,L,Q,X=>G.calm=Jc/\∃k,dwhGo (λL K=>dwe G M t L (λv o0=>dBool K v) λc l=>X c l L) (λL K=>dwss G M f b L K X) Q k L
 | .raise c args,L,_,X=>(G.full=Jc/\G.calm=Jc/\(G.mks.contains c=Jc\/(G.inis.contains c=Jc/\args.length=(G.flds c).length)))/\dwes G M args L (λvs=>X c (((fsts vs).take (G.flds c).length).map λo0=> .hole) L) λc l=>X c l L
 | .try1 b c h,L,Q,_=>(G.full=Jc/\G.calm=Jc/\G.cs.contains c=Jc)/\dwss G M f b L Q λe es u=>
   if G.sub e c then dwss G.un f f h u Q λo0 o0 o0=>False
   else False
noncomputable def dwss(G:Gx)(M f:DCl):List S->DRho->bR->DSX->Prop
 |[],L,Q,_=>Q .next L
 |s::r,L,Q,X=>dws G M f s L (donFl (λu=>dwss G M f r u Q X) Q) X
end
structure DSrc where
 S:Jg->Prop
 pin:String->Option PV
instance:CoeFun DSrc λo0=>Jg->Prop:=⟨DSrc.S⟩
structure Inv(N:PH)(S:DSrc)(P:List Jg)(Δ:DRho)(ρ:Rho)(σ:PH)(fp:String->List Jg):Prop where
 env:EnvE σ Δ ρ fp
 sep:∀x d,Δ.get x=Ja (d,Jc)->∀y,y≠x->Disj (fp x) (fp y)
 own:∀x d,Δ.get x=Ja (d,Jc)->(fp x).Nodup/\∀a∈fp x,N a=Jb
 src:∀x,∀a∈fp x,S a
 kept:Ext N σ
 pend:∀a∈P,(∃l:MO,σ a=Ja l.1)/\∀x,a∉fp x
 newS:∀a,N a=Jb->S a
 pin:∀x v,S.pin x=Ja v->ρ.get x=Ja v
theorem Rho.gget_mem:∀ρ:Rho,ρ.get x=Ja v->x∈keysR ρ
 |(y,o)::r,h=>by
  by_cases W:y=x
  ·subst W;exact .head _
  ·simp only[Rho.get_c,W,if_false] at h;exact .tail _<|Rho.gget_mem r h
section
variable{N σ σ':PH}{S:DSrc}{P:List Jg}{Δ:DRho}{ρ:Rho}{fp:String->List Jg}
theorem Inv.ext(h:Inv N S P Δ ρ σ fp)(x:Ext σ σ'):Inv N S P Δ ρ σ' fp:=
 ⟨h.env.ext x,h.sep,h.own,h.src,h.kept.trans x,λa T=>by obtain⟨⟨l,e⟩,p⟩:=h.pend a T;exact⟨⟨l,x a _ e⟩,p⟩,h.newS,h.pin⟩
theorem Inv.weak(h:Inv N S P Δ ρ σ fp)(k:∀a∈P',a∈P):Inv N S P' Δ ρ σ fp:=⟨h.env,h.sep,h.own,h.src,h.kept,λa T=>h.pend a (k a T),h.newS,h.pin⟩
theorem Inv.put(h:Inv N S P Δ ρ σ fp){d:D}{F:List Jg}(r:RdF σ d v F)(H:b=Jc->(F.Nodup/\∀a∈F,N a=Jb)/\∀y,y≠x->Disj F (fp y))
  (o:∀y e,y≠x->Δ.get y=Ja (e,Jc)->Disj (fp y) F)(s:∀a∈F,S a)(p:∀a∈P,a∉F)(n:∀w,S.pin x=Ja w->v=w):Inv N S P (Δ.put x (d,b)) (ρ.put x v) σ (fset fp x F):=by
 have g:∀e,(Δ.put x (d,b)).get x=Ja (e,Jc)->b=Jc:=λe q=>by
  have m:=DRho.get_mem _ q;rw[DRho.put_keys] at m;rw[DRho.get_put _ m] at q;cases q;rfl
 refine⟨h.env.put r,λy e q z R=> ?_,λy e q=> ?_,λy a T=> ?_,h.kept,λa T=>⟨(h.pend a T).1,λy W=> ?_⟩,h.newS,λy w q=> ?_⟩
 ·by_cases W:y=x
  ·subst W;have:=g e q;rw[dm,cr R];exact(H this).2 z R
  ·rw[DRho.get_put_ne W] at q;rw[cr W];by_cases f:z=x
   ·subst f;rw[dm];exact o y e W q
   ·rw[cr f];exact h.sep y e q z R
 ·by_cases W:y=x
  ·subst W;rw[dm];exact(H<|g e q).1
  ·rw[DRho.get_put_ne W] at q;rw[cr W];exact h.own y e q
 ·by_cases W:y=x
  ·subst W;rw[dm] at T;exact s a T
  ·rw[cr W] at T;exact h.src y a T
 ·by_cases Q:y=x
  ·subst Q;rw[dm] at W;exact p a T W
  ·rw[cr Q] at W;exact(h.pend a T).2 y W
 ·by_cases W:y=x
  ·subst W;rw[Rho.gput _ (Rho.gget_mem _<|h.pin y w q),n w q]
  ·rw[Rho.gput_ne W];exact h.pin y w q
structure MOK(N:PH)(P:List Jg)(fp:String->List Jg)(F:List Jg):Prop where
 nd:F.Nodup
 own:∀a∈F,N a=Jb
 out:∀a∈F,∀y,a∉fp y
 pend:Disj P F
theorem MOK.nil:MOK N P fp []:=⟨.nil,λa h=>(bQ h),λa h=>(bQ h),λa o0 h=>(bQ h)⟩
theorem DRho.get_map(f:String->D×Bool->D×Bool)(x:String):∀Δ:DRho,DRho.get (Δ.map λp=>(p.1,p.2.map (f p.1))) x=(Δ.get x).map (f x)
 |[]=>rfl
 |(y,o)::r=>by
  by_cases h:y=x
  ·subst h;simp only[Qq,DRho.get_if,if_true]
  ·simp only[Qq,DRho.get_if,h,if_false];exact DRho.get_map f x r
theorem uW(Δ:DRho)(xs:List String):Δ.frz (Ja xs)=Δ.map λp=>(p.1,p.2.map λq=>if xs.contains p.1 then(q.1,q.1.atom&&q.2) else q):=by
 refine Qj λp o0=> ?_;rw[mQ]
 induction xs.contains p.1 with
 |true=>rfl
 |false=>exact Ub (Prod.mk p.1) (congrFun Option.map_id p.2).symm
theorem Inv.map(h:Inv N S P Δ ρ σ fp)(f:String->D×Bool->D×Bool)(j:∀x q,(f x q).1=q.1/\((f x q).2=Jc->q.2=Jc)):Inv N S P (Δ.map λp=>(p.1,p.2.map (f p.1))) ρ σ fp:=by
 have g:∀x d b,DRho.get (Δ.map λp=>(p.1,p.2.map<|f p.1)) x=Ja (d,b)->∃c,Δ.get x=Ja (d,c)/\(b=Jc->c=Jc)/\f x (d,c)=(d,b):=λx d b e=>by
  rw[DRho.get_map] at e;obtain⟨⟨X,c⟩,T,w⟩:=Qs.mp e;have E:=(j x (X,c)).1;have Y:=(j x (X,c)).2;rw[w] at E Y;cases E;exact⟨c,T,Y,w⟩
 refine⟨⟨λx d b e=> ?_,h.env.dom,?_⟩,λx d e=> ?_,λx d e=> ?_,h.src,h.kept,h.pend,h.newS,h.pin⟩
 ·obtain⟨c,T,o0⟩:=g x d b e;exact h.env.at_ x d c T
 ·rw[<-h.env.keys,QE];rfl
 ·obtain⟨c,T,w,o0⟩:=g x d Jc e;cases w rfl;exact h.sep x d T
 ·obtain⟨c,T,w,o0⟩:=g x d Jc e;cases w rfl;exact h.own x d T
theorem Inv.frz(h:Inv N S P Δ ρ σ fp)(t:Tag):Inv N S P (Δ.frz t) ρ σ fp:=by
 induction t with
 |none=>exact h
 |some s=>
  rw[uW];refine h.map (λx q=>if s.contains x then(q.1,q.1.atom&&q.2) else q) λx q=> ?_;by_cases hx:s.contains x=Jc
  ·rw[Y8 hx];exact⟨rfl,λe=>(Qh.mp e).2⟩
  ·rw[Y7 hx];exact⟨rfl,id⟩
end
theorem Rho.put_self:∀ρ:Rho,ρ.get x=Ja v->ρ.put x v=ρ
 |(y,o)::r,h=>by
  by_cases W:y=x
  ·simp only[Rho.get_c,W,if_true] at h;simp only[Rho.put_c,W,if_true,h]
  ·simp only[Rho.get_c,W,if_false] at h;simp only[Rho.put_c,W,if_false,Rho.put_self r h]
theorem set_same{L:Type}{l:List L}{j:Nat}{p:L}(h:l[j]? =Ja p):l.set j p=l:=by
 refine WF λi=> ?_;rw[KS]
 split
 ·subst_vars
  rw[h];split
  ·rfl
  ·rename_i t;exact ns<|(KZ<|by exact Kc.mp t).symm.trans h
 ·rfl
theorem RdFs.split:∀ {ds:List D} {l:List PV} {F:List Jg},RdFs σ ds l F->∀ (j:Nat) (d:D),ds[j]? =Ja d->X4 λp A B y=>A4 (l[j]? =Ja p) (F=A++(y++B)) (RdF σ d p y) (∀σ' d' q I,Ag A σ σ'->Ag B σ σ'->RdF σ' d' q I->RdFs σ' (ds.set j d') (l.set j q) (A++(I++B)))
 |d::ds,l,F,a,0,e,h=>by
  obtain⟨p,s,Q,t,E,Y,J,w⟩:=a;subst E Y;obtain rfl:=sj h;exact⟨p,[],t,Q,rfl,rfl,J,λσ' d' q I o0 ag r=>⟨q,s,I,t,rfl,rfl,r,w.ag ag⟩⟩
 |d::ds,l,F,a,j+1,e,h=>by
  obtain⟨p,s,Q,t,E,Y,J,w⟩:=a;subst E Y;obtain⟨q,A,B,y,k,U,V,R⟩:=RdFs.split w j e h;subst U;refine⟨q,Q++A,B,y,k,(Kn _ _ _).symm,V,λσ' d' q I g b r=> ?_⟩;exact⟨p,s.set j q,Q,A++(I++B),rfl,Kn _ _ _,J.ag g.left,R σ' d' q I g.right b r⟩
section
variable{N σ σ':PH}{S:DSrc}{P:List Jg}{Δ:DRho}{ρ:Rho}{fp:String->List Jg}
theorem Ag.refl:Ag F σ σ:=⟨λo0 o0=>rfl,λo0 o0 e o0=>e⟩
theorem Ag.trans(x:Ag F a b)(y:Ag F b c):Ag F a c:=⟨λp h=>(y.at_ p h).trans (x.at_ p h),λp o e k=>y.oth p o (x.oth p o e k) k⟩
theorem Inv.agP(h:Inv N S P Δ ρ σ fp)(x:Ext σ σ'):Ag P σ σ':= .of_ext x λa T=>(h.pend a T).1
theorem Inv.new0(h:Inv N S P Δ ρ σ fp)(e:σ a=Jb):N a=Jb:=h.kept.new e
theorem Inv.move(h:Inv N S P Δ ρ σ fp){d d':D}(e:Δ.get x=Ja (d,Jc))(X:ρ.get x=Ja v)(r:RdF σ d' v (A++B))(J:fp x=A++(F++B)):
  Inv N S P (Δ.put x (d',Jc)) ρ σ (fset fp x<|A++B)/\MOK N P (fset fp x<|A++B) F:=by
 obtain⟨nd,o⟩:=h.own x d e;rw[J] at nd o;have sub:∀a,a∈A++B->a∈fp x:=λa T=>by
  rw[J]
  rcases Qn.mp T with q|q
  ·exact Qf _ q
  ·exact Qe _<|Qe _ q
 have s:∀a,a∈F->a∈fp x:=λa T=>by rw[J];exact Qe _<|Qf _ T
 have n:=Qo.mp nd;have K:=Qo.mp n.2.1;have i:=h.put (x:=x) (b:=Jc) r (λo0=>⟨⟨Qo.mpr ⟨n.1,K.2.1,λa T b R=>n.2.2 a T b<|Qe _ R⟩,λa T=>(h.own x d e).2 a (sub a T)⟩,λy W a T=>h.sep x d e y W a<|sub a T⟩)
  (λy g W q a T R=>h.sep y g q x (λz=>W z.symm) a T<|sub a R) (λa T=>h.src x a<|sub a T) (λa T R=>(h.pend a T).2 x (sub a R)) (λw q=>by have:=h.pin x w q;obtain rfl:=sj<|X.symm.trans this;rfl)
 rw[Rho.put_self _ X] at i;refine⟨i,⟨K.1,λa T=>(h.own x d e).2 a (s a T),λa T y W=> ?_,λa T R=>(h.pend a T).2 x (s a R)⟩⟩;by_cases q:y=x
 ·subst q;rw[dm] at W
  rcases Qn.mp W with q|q
  ·exact n.2.2 a q a (Qf _ T) rfl
  ·exact K.2.2 a T a q rfl
 ·rw[cr q] at W;exact h.sep x d e y q a (s a T) W
theorem Inv.fresh(h:Inv N S P Δ ρ σ fp){f:String->List Jg}(p:PartOK σ f t F)(e:t=Jb):MOK N P fp F:=
 ⟨(p.own e).1,λa T=>h.new0<|(p.own e).2 a T,λa T y W=>(by obtain⟨l,q⟩:=h.env.dom y a W;exact ns<|((p.own e).2 a T).symm.trans q),λa T b=>(by obtain⟨⟨l,q⟩,_⟩:=h.pend a T;exact ns<|((p.own e).2 a b).symm.trans q)⟩
end
section
variable(G:Gx)(cv:Cl)
def MDOK(e:E):Prop:=∀ (N:PH) (S:DSrc) (P:List Jg) (z:DRho) (p:String->List Jg) (Δ:DRho) (ρ:Rho) (fp:String->List Jg) (σ:PH) (Q:D->DRho->Prop) (r:Post) (X:XPost),Inv N S P Δ ρ σ fp->EnvE σ z ρ p->dwm G (aQ cv) z e Δ Q->
 (∀d H f v σ' F,Q d H->Inv N S P H ρ σ' f->RdF σ' d v F->MOK N P f F->Ext σ σ'->r v σ')->we G cv e ρ σ r X
def MDOKs(es:List E):Prop:=∀ (N:PH) (S:DSrc) (P:List Jg) (z:DRho) (p:String->List Jg) (Δ:DRho) (ρ:Rho) (fp:String->List Jg) (σ:PH) (Q:List D->DRho->Prop) (r:List PV->PH->Prop) (X:XPost),Inv N S P Δ ρ σ fp->EnvE σ z ρ p->dwms G (aQ cv) z es Δ Q->
 (∀s H f v σ' F,Q s H->Inv N S P H ρ σ' f->ArgsR σ' (s.map λd=>(d,Jc)) v F->MOK N P f F.flatten->Ext σ σ'->r v σ')->wes G cv es ρ σ r X
end
section
variable{G:Gx}{cv:Cl}
theorem bX(O:DOK G cv e){S:DSrc}{f:String->List Jg}{fp:String->List Jg}{Q:D->DRho->Prop}(i:Inv N S P Δ ρ σ fp)(env:EnvE σ z ρ f)
  (h:dwe G (aQ cv) e z (λd t=>t=Jb/\Q d Δ) λo0 o0=>False)(k:∀d H p v σ' F,Q d H->Inv N S P H ρ σ' p->RdF σ' d v F->MOK N P p F->Ext σ σ'->Q' v σ'):we G cv e ρ σ Q' X:=
 O z ρ f σ _ _ Q' X env h (λd t v σ' F q r=>k d Δ fp v σ' F q.2 (i.ext r.ext) r.rd (i.fresh r.part q.1) r.ext) λo0 o0 o0 o0 o0 q o0=>q.elim
theorem AJ:MDOK G cv (.loc x):=λN S P z f Δ ρ fp σ Q t X i o0 h k=>by
 obtain⟨⟨d,b⟩,e,h⟩:=eh (show dOE (λp=>cond p.1.atom (Q p.1 Δ)<|cond p.2 (Q p.1<|Δ.put x (.hole,Jc)) (Q .hole Δ)) (Δ.get x) from h);obtain⟨v,g,r⟩:=i.env.at_ x d b e;show oV _ (ρ.get x);rw[g];show t v σ
 induction a:d.atom with
 |true=>
  simp only[a,cond_true] at h;refine k d Δ fp v σ [] h i ?_ .nil (.refl σ);rw[r.atom a] at r;exact r
 |false=>
  simp only[a,cond_false] at h
  induction b with
  |false=>exact k .hole Δ fp v σ [] h i rfl .nil (.refl σ)
  |true=>
   obtain⟨w,m⟩:=i.move (d':= .hole) (A:=[]) (B:=[]) (F:=fp x) e g rfl (by rw[QH,Ku]);exact k d _ _ v σ (fp x) h w r m<|.refl σ
theorem jI(h:locOf a=Ja x):a= .loc x:=by
 induction a using E.casesOn with
 |loc y=>obtain rfl:=sj h;rfl
 |_=>first|exact bnx h|exact onx h|cases h
theorem BE(T:MDOKs G cv l):MDOK G cv (.tup l):=λN S P z f Δ ρ fp σ Q t X i e h k=>
 T N S P z f Δ ρ fp σ _ _ X i e h λs H p v σ' F q w r m ag=>by
  have K:RdFs σ' s v F.flatten:=by
   clear q m w ag h T k
   induction s generalizing v F with
   |nil=>cases r;exact⟨rfl,rfl⟩
   |cons d s W=>cases r with|cons B M y u=>exact⟨_,_,_,_,rfl,rfl,B,W _ _ u⟩
  exact k _ _ _ _ _ _ q.2 w ⟨v,rfl,by rw[K.len];exact q.1,K⟩ m ag
theorem ArgsR.lens{ds:List (D×Bool)}{vs:List PV}{F:List (List Jg)}(h:ArgsR σ ds vs F):vs.length=ds.length/\F.length=ds.length:=by
 induction h with
 |nil=>exact⟨rfl,rfl⟩
 |cons r p q h i=>exact⟨Ub (· +1) i.1,Ub (· +1) i.2⟩
theorem Inv.called{S:DSrc}{fp:String->List Jg}(i:Inv N S P Δ ρ σ fp)(m:MOK N P fp M)(Z:∀a∈M,∃l:MO,σ a=Ja l.1)(k:i7 M σ σ'):
  Inv N S P Δ ρ σ' fp/\Ag P σ σ':=by
 have ag:∀F:List Jg,(∀a∈F,(∃l:MO,σ a=Ja l.1)/\a∉M)->Ag F σ σ':=λF J=>⟨λa h=>by
   obtain⟨⟨l,e⟩,c⟩:=J a h;exact(k a _ e c).trans e.symm,λa o e n=>k a o e λq=>by
   obtain⟨l,A⟩:=Z a q;obtain rfl:=sj (e.symm.trans A);exact ft (l.2.symm.trans n)⟩
 have g:∀x,Ag (fp x) σ σ':=λx=>ag _ λa h=>⟨i.env.dom x a h,λq=>m.out a q x h⟩
 have agP:Ag P σ σ':=ag _ λa h=>⟨(i.pend a h).1,m.pend a h⟩
 refine⟨⟨⟨λx d b e=> ?_,λx a h=> ?_,i.env.keys⟩,i.sep,i.own,i.src,λa o e=> ?_,λa h=>⟨?_,(i.pend a h).2⟩,i.newS,i.pin⟩,agP⟩
 ·obtain⟨v,E,p⟩:=i.env.at_ x d b e;exact⟨v,E,p.ag<|g x⟩
 ·obtain⟨l,e⟩:=i.env.dom x a h;exact⟨l,((g x).at_ a h).trans e⟩
 ·refine k a o (i.kept a o e) λC=> ?_;exact ns<|(m.own a C).symm.trans e
 ·obtain⟨l,e⟩:=(i.pend a h).1;exact⟨l,(agP.at_ a h).trans e⟩
theorem yH(c:MDOK G cv e)(H:MDOKs G cv es):MDOKs G cv (e::es):=λN S P z f Δ ρ fp σ Q o X i n h k=>
 c N S P z f Δ ρ fp σ _ _ X i n h λd u W v r F A w B m Y=>
  H N S (F++P) z f u ρ W r _ _ X ⟨w.env,w.sep,w.own,w.src,w.kept,λa T=>by
   rcases Qn.mp T with T|T
   ·exact⟨B.dom a T,m.out a T⟩
   ·exact w.pend a T,w.newS,w.pin⟩ (n.ext Y) A λV J g L O s K l t M I=>by
  have U:Disj F s.flatten:=λa T R=>M.pend a (Qf _ T) R;refine k _ J g _ O (F::s) K (l.weak λa T=>Qe _ T) (.cons (B.ext I) (λo0=>m.nd) (λp D o0 a T R=> ?_) t) ⟨?_,?_,?_,?_⟩<|Y.trans I
  ·exact U a T<|List.mem_flatten.mpr ⟨p.2,(Kx D).2,R⟩
  ·exact Qo.mpr ⟨m.nd,M.nd,λa T b R q=>U a T<|q▸R⟩
  ·intro a T
   rcases Qn.mp T with T|T
   ·exact m.own a T
   ·exact M.own a T
  ·intro a T y x
   rcases Qn.mp T with T|T
   ·exact(l.pend a<|Qf _ T).2 y x
   ·exact M.out a T y x
  ·intro a T j
   rcases Qn.mp j with j|j
   ·exact m.pend a T j
   ·exact M.pend a (Qe _ T) j
mutual
theorem pO:∀e:E,MDOK G cv e
 | .loc _=>AJ
 | .sub .. =>λo0 o0 o0 o0 o0 o0 o0 o0 o0 o0 o0 o0 i env h k=>bX (bo _) i env h k
 | .tup l=>BE<|mI l
 | .call .. =>λo0 o0 o0 o0 o0 o0 o0 o0 o0 o0 o0 o0 i env h k=>bX (bo _) i env h k
 | .none=>λo0 o0 o0 o0 o0 o0 o0 o0 o0 o0 o0 o0 i env h k=>bX (bo _) i env h k
 | .bool _=>λo0 o0 o0 o0 o0 o0 o0 o0 o0 o0 o0 o0 i env h k=>bX (bo _) i env h k
 | .int _=>λo0 o0 o0 o0 o0 o0 o0 o0 o0 o0 o0 o0 i env h k=>bX (bo _) i env h k
 | .str _=>λo0 o0 o0 o0 o0 o0 o0 o0 o0 o0 o0 o0 i env h k=>bX (bo _) i env h k
 | .glob _=>λo0 o0 o0 o0 o0 o0 o0 o0 o0 o0 o0 o0 i env h k=>bX (bo _) i env h k
 | .bin .. =>λo0 o0 o0 o0 o0 o0 o0 o0 o0 o0 o0 o0 i env h k=>bX (bo _) i env h k
 | .not_ _=>λo0 o0 o0 o0 o0 o0 o0 o0 o0 o0 o0 o0 i env h k=>bX (bo _) i env h k
 | .and_ .. =>λo0 o0 o0 o0 o0 o0 o0 o0 o0 o0 o0 o0 i env h k=>bX (bo _) i env h k
 | .or_ .. =>λo0 o0 o0 o0 o0 o0 o0 o0 o0 o0 o0 o0 i env h k=>bX (bo _) i env h k
 | .isNone _=>λo0 o0 o0 o0 o0 o0 o0 o0 o0 o0 o0 o0 i env h k=>bX (bo _) i env h k
 | .notNone _=>λo0 o0 o0 o0 o0 o0 o0 o0 o0 o0 o0 o0 i env h k=>bX (bo _) i env h k
 | .cmp .. =>λo0 o0 o0 o0 o0 o0 o0 o0 o0 o0 o0 o0 i env h k=>bX (bo _) i env h k
 | .cmp2 .. =>λo0 o0 o0 o0 o0 o0 o0 o0 o0 o0 o0 o0 i env h k=>bX (bo _) i env h k
 | .list _=>λo0 o0 o0 o0 o0 o0 o0 o0 o0 o0 o0 o0 i env h k=>bX (bo _) i env h k
 | .comp .. =>λo0 o0 o0 o0 o0 o0 o0 o0 o0 o0 o0 o0 i env h k=>bX (bo _) i env h k
 | .compIf .. =>λo0 o0 o0 o0 o0 o0 o0 o0 o0 o0 o0 o0 i env h k=>bX (bo _) i env h k
 | .bi .. =>λo0 o0 o0 o0 o0 o0 o0 o0 o0 o0 o0 o0 i env h k=>bX (bo _) i env h k
 | .isi .. =>λo0 o0 o0 o0 o0 o0 o0 o0 o0 o0 o0 o0 i env h k=>bX (bo _) i env h k
 | .meth .. =>λo0 o0 o0 o0 o0 o0 o0 o0 o0 o0 o0 o0 i env h k=>bX (bo _) i env h k
 | .dict0=>λo0 o0 o0 o0 o0 o0 o0 o0 o0 o0 o0 o0 i env h k=>bX (bo _) i env h k
 | .get .. =>λo0 o0 o0 o0 o0 o0 o0 o0 o0 o0 o0 o0 i env h k=>bX (bo _) i env h k
 | .sd .. =>λo0 o0 o0 o0 o0 o0 o0 o0 o0 o0 o0 o0 i env h k=>bX (bo _) i env h k
 | .mcall .. =>λo0 o0 o0 o0 o0 o0 o0 o0 o0 o0 o0 o0 i env h k=>bX (bo _) i env h k
 | .attr .. =>λo0 o0 o0 o0 o0 o0 o0 o0 o0 o0 o0 o0 i env h k=>bX (bo _) i env h k
theorem mI:∀es:List E,MDOKs G cv es
 |[]=>λN S P z f Δ ρ fp σ Q Q' X i o0 h k=>k [] Δ fp [] σ [] h i .nil .nil (.refl σ)
 |e::es=>yH (pO e)<|mI es
end
end
structure Zip(σ:PH)(dx:D)(vx:PV)(A Fn B:List Jg)(ps:List D)(dn:D)(vn:PV):Prop where
 rd:RdF σ dn vn Fn
 da:∀a∈A,∃l:MO,σ a=Ja l.1
 db:∀a∈B,∃l:MO,σ a=Ja l.1
 upd:∀ (σ':PH) (f:D->Option D) (dn':D) (Fn':List Jg),Ag A σ σ'->Ag B σ σ'->RdF σ' dn' vn Fn'->f dn=Ja dn'->∃dx',updp ps f dx=Ja dx'/\RdF σ' dx' vx (A++(Fn'++B))
theorem Zip.ext{A Fn B:List Jg}(z:Zip σ g v A Fn B ps Z n)(x:Ext σ σ1):Zip σ1 g v A Fn B ps Z n:=
 ⟨z.rd.ext x,λa h=>by obtain⟨l,e⟩:=z.da a h;exact⟨l,x a _ e⟩,λa h=>by obtain⟨l,e⟩:=z.db a h;exact⟨l,x a _ e⟩,λX f d F V b r e=>z.upd X f d F ((Ag.of_ext x z.da).trans V) ((Ag.of_ext x z.db).trans b) r e⟩
theorem Zip.here{d:D}(r:RdF σ d v F):Zip σ d v [] F [] [] d v:=
 ⟨r,λa h=>(bQ h),λa h=>(bQ h),λX f n A o0 o0 r e=>⟨n,e,by rw[Ku,QH];exact r⟩⟩
theorem jN:∀ (ps:List D) (i:D) (f:D->Option D),updp (ps++[i]) f=updp ps (dset1 i f)
 |[]=>λi f=>rfl
 |p::ps=>λi f=>by
  show dset1 p (updp (ps++[i]) f)=dset1 p (updp ps<|dset1 i f);rw[jN ps i f]
inductive ZipS(σ:PH)(dx:D)(vx:PV)(T:List Jg)(qs:List D)(d:D)(W:PV->Prop):Prop
 |mk (p:PV) (A' Fj B':List Jg) (e:W p) (e4:T=A'++(Fj++B')) (z:Zip σ dx vx A' Fj B' qs d p):ZipS σ dx vx T qs d W
theorem Zip.obj{o:MO}(z:Zip σ u v A (a::(Q++(j++O))) B ps n (.ref a)){i d:D}(e:σ a=Ja o.1)(J:RdF σ d p j)
  (q:∀b∈Q++(j++O),∃l:MO,σ b=Ja l.1)
  (V:∀ (σ':PH) (f:D->Option D) (dn':D) (F:List Jg),Ag Q σ σ'->Ag O σ σ'->σ' a=Ja o.1->RdF σ' dn' p F->f d=Ja dn'->∃w,dset1 i f n=Ja w/\RdF σ' w (.ref a) (a::(Q++(F++O)))):
  Zip σ u v (A++(a::Q)) j (O++B) (ps++[i]) d p:=by
 refine⟨J,λb h=> ?_,λb h=> ?_,λσ' f dn' F g T r W=> ?_⟩
 ·rcases Qn.mp h with h|h
  ·exact z.da b h
  ·cases h with
   |head=>exact⟨o,e⟩
   |tail _ h=>exact q b<|Qf _ h
 ·rcases Qn.mp h with h|h
  ·exact q b<|Qe _ (Qe _ h)
  ·exact z.db b h
 ·obtain⟨w,k,M⟩:=V σ' f dn' F g.right.tail T.left ((g.at_ a<|Qe _ (.head _)).trans e) r W;obtain⟨x,Y,X⟩:=z.upd σ' (dset1 i f) w (a::(Q++(F++O))) g.left T.right M k;refine⟨x,by rw[jN];exact Y,?_⟩;have:A++(a::(Q++(F++O))++B)=(A++(a::Q))++(F++(O++B)):=by simp
  rw[<-this];exact X
theorem Zip.key{A Fn B:List Jg}(z:Zip σ g L A Fn B ps (.dict ks l) I){d:D}(C:keyD i=Ja k)(h:dlook ks l k=Ja d):
  ZipS σ g L (A++(Fn++B)) (ps++[i]) d λp=>X2 λa v=>A3 (I= .ref a) (σ a=Ja (.dict ks v)) (klook ks v k=Ja p):=by
 obtain⟨a,v,G,rfl,e,T,rfl,r⟩:=z.rd;obtain⟨j,H,q⟩:=Qr.mp h;obtain⟨p,Q,O,Y,c,rfl,J,m⟩:=r.split j d q;refine⟨p,A++(a::Q),Y,O++B,⟨a,v,rfl,e,Qr.mpr ⟨j,H,c⟩⟩,by simp,z.obj (o:=⟨.dict ks v,rfl⟩) e J r.dom λX f n F V b Z U w=> ?_⟩;have M:=m X n p F V b U;rw[set_same c] at M;refine⟨.dict ks<|l.set j n,?_,a,v,_,rfl,Z,T,rfl,M⟩;show((keyD i).bind λk=>(kidx ks k).bind λj=>(l[j]?).bind λx=>(f x).map λy=>D.dict ks<|l.set j y)=_;rw[C];show((kidx ks k).bind λj=>(l[j]?).bind λx=>(f x).map λy=>D.dict ks<|l.set j y)=_;rw[H];show((l[j]?).bind λx=>(f x).map λy=>D.dict ks<|l.set j y)=_;rw[q];show((f d).map λy=>D.dict ks<|l.set j y)=_;rw[w];rfl
theorem Zip.sub{A Fn B:List Jg}{E:PV}(z:Zip σ u C A Fn B ps Z E){d:D}(V:RdF σ i P Fi)(hs:isScr Z=Jd)(h:dsub Z i=Ja d):
  ZipS σ u C (A++(Fn++B)) (ps++[i]) d λp=>∀Q:PV->Prop,Q p->wsub σ E P Q:=by
 induction Z using D.casesOn with
 |list l=>
  induction i using D.casesOn with
  |int n=>
   obtain⟨rfl,o0⟩:=V;obtain⟨a,v,G,rfl,e,T,rfl,r⟩:=z.rd;obtain⟨j,H,q⟩:=Qr.mp (show((place l.length n).bind λj=>l[j]?)=Ja d from h);obtain⟨p,W,O,Y,c,rfl,J,L⟩:=r.split j d q;have K:psub σ (.ref a) (.int n)=Ja p:=by
    show psubO (.int n) (σ a)=_;rw[e];show((place v.length n).bind λj=>v[j]?)=Ja p;rw[r.len,H];exact c
   have hq:plen σ (.ref a)=Ja v.length:=by
    show(match σ a with
     |some (.list l)=>Ja l.length
     |_=>Jb)=_
    rw[e]
   refine⟨p,A++(a::W),Y,O++B,hH hq T K,by simp,z.obj (o:=⟨.list v,rfl⟩) e J r.dom λX f I F g m ea U w=> ?_⟩;have M:=L X I p F g m U;rw[set_same c] at M;refine⟨.list<|l.set j I,?_,a,v,_,rfl,ea,T,rfl,M⟩;show((place l.length n).bind λj=>(l[j]?).bind λx=>(f x).map λy=>D.list<|l.set j y)=_;rw[H];show((l[j]?).bind λx=>(f x).map λy=>D.list<|l.set j y)=_;rw[q];show((f d).map λy=>D.list<|l.set j y)=_;rw[w];rfl
  |_=>first|exact bnx h|exact onx h|cases h
 |tup l=>
  induction i using D.casesOn with
  |int n=>
   obtain⟨rfl,o0⟩:=V;obtain⟨v,rfl,T,r⟩:=z.rd;obtain⟨j,H,q⟩:=Qr.mp (show((place l.length n).bind λj=>l[j]?)=Ja d from h);obtain⟨p,W,O,Y,c,rfl,J,L⟩:=r.split j d q;have K:psub σ (.tup v) (.int n)=Ja p:=by
    show((place v.length n).bind λj=>v[j]?)=Ja p;rw[r.len,H];exact c
   refine⟨p,A++W,Y,O++B,hH (n:=v.length) rfl T K,by simp,⟨J,λb R=> ?_,λb R=> ?_,λX f I F g m U w=> ?_⟩⟩
   ·rcases Qn.mp R with R|R
    ·exact z.da b R
    ·exact r.dom b<|Qf _ R
   ·rcases Qn.mp R with R|R
    ·exact r.dom b<|Qe _ (Qe _ R)
    ·exact z.db b R
   ·have M:=L X I p F g.right m.left U;rw[set_same c] at M;obtain⟨t,u1,s⟩:=z.upd X (dset1 (.int n) f) (.tup (l.set j I)) (W++(F++O)) g.left m.right ⟨v,rfl,T,M⟩ (by
     show((place l.length n).bind λj=>(l[j]?).bind λx=>(f x).map λy=>D.tup (l.set j y))=_;rw[H];show((l[j]?).bind λx=>(f x).map λy=>D.tup (l.set j y))=_;rw[q];show((f d).map λy=>D.tup (l.set j y))=_;rw[w];rfl)
    refine⟨t,by rw[jN];exact u1,?_⟩;have:A++((W++(F++O))++B)=(A++W)++(F++(O++B)):=by simp
    rw[<-this];exact s
  |_=>first|exact bnx h|exact onx h|cases h
 |scr l=>exact tf hs
 |dict ks l=>
  obtain⟨k,N,h2⟩:=Qr.mp (show((keyD i).bind λk=>dlook ks l k)=Ja d from h);obtain⟨p,A',Y,S,⟨a,v,e0,e1,e2⟩,e3,z'⟩:=z.key N h2;subst e0;exact⟨p,A',Y,S,oy e1 (ma V N) e2,e3,z'⟩
 |_=>first|exact bnx h|exact onx h|cases h
section
variable{G:Gx}{cv:Cl}
theorem jm{j:DRho}{L:Rho}{f:String->List Jg}(env:EnvE σ j L f):∀ (o:E) (Q:String->List D->D->Prop) (Q':Post),dpath G (aQ cv) o j Q (λo0 o0=>False)->
  (∀x ps Z σ' I g n A Fn B,Q x ps Z->Ext σ σ'->j.get x=Ja (g,Jc)->L.get x=Ja n->f x=A++(Fn++B)->Zip σ' g n A Fn B ps Z I->Q' I σ')->we G cv o L σ Q' X
 |o,Q,Q',h,k=>by
  induction o using E.casesOn with
  |loc x=>
   obtain⟨⟨d,b⟩,e,N,Y⟩:=eh (show dOE (λp=>p.2=Jc/\Q x [] p.1) (j.get x) from h);cases N;obtain⟨v,W,r⟩:=env.at_ x d Jc e;show oV (λv=>Q' v σ) (L.get x);rw[W];exact k x [] d σ v d v [] (f x) [] Y (.refl σ) e W (by rw[QH,Ku]) (.here r)
  |sub a i=>
   refine jm env a _ _ h λx ps Z m I g n A Fn B h M e W J z=> ?_;refine bo i j L f m _ _ _ X (env.ext M) h (λS t C O R h V=> ?_) λo0 o0 o0 o0 o0 q o0=>q.elim;obtain⟨N,Y⟩:=h;obtain⟨d,w,Y⟩:=gS Y;obtain⟨p,y,F,K,c,s,T⟩:=(z.ext V.ext).sub V.rd N w;exact c _<|k x _ d O p g n y F K Y (M.trans V.ext) e W (J.trans s) T
  |_=>exact h.elim
theorem DRho.put_put:∀L:DRho,(L.put x u).put x v=L.put x v
 |[]=>rfl
 |(y,o)::r=>by
  by_cases h:y=x
  ·simp only[DRho.put_if,h,if_true]
  ·simp only[DRho.put_if,h,if_false,DRho.put_put r]
theorem lC{f:String->List Jg}{x:String}{F G:List Jg}:fset (fset f x F) x G=fset f x G:=by
 funext y;by_cases h:y=x
 ·subst h;rw[dm,dm]
 ·rw[cr h,cr h,cr h]
theorem Inv.upd{N σ:PH}{S:DSrc}{p:DRho}{k:Rho}{f:String->List Jg}(i:Inv N S P p k σ f)(e:p.get x=Ja (g,Jc))(r:k.get x=Ja Q)
  (J:f x=A++((a::Z)++B))(z:Zip σ g Q A (a::Z) B ps dn (.ref a)){G':List Jg}(r':∀σ',Ag G' σ σ'->σ' a=Ja o'->RdF σ' dn' (.ref a) (a::G'))(U:G'.Nodup)(sub:∀b∈G',b∈Z\/b∈Fv)(m:MOK N [] f Fv):
  ∃n,updp ps (λo0=>Ja dn') g=Ja n/\Inv N S [] (p.put x (n,Jc)) k (σ.set a o') (fset f x<|A++((a::G')++B)):=by
 obtain⟨K,O⟩:=i.own x g e;have l:a∈f x:=by rw[J];exact Qe _<|.head _
 rw[J] at K;have Y:=Qo.mp K;have T:=Qy.mp Y.2.1;have n3:=Qo.mp T.2;have v:a∉A:=λq=>Y.2.2 a q a (.head _) rfl;have X:a∉B:=λq=>T.1 (Qe _ q);have L:a∉Z:=λq=>T.1 (Qf _ q);have V:a∉Fv:=λq=>m.out a q x l;have E:a∉G':=λq=>(sub a q).elim L V;obtain⟨la,ea⟩:=i.env.dom x a l;have ag:∀F:List Jg,a∉F->Ag F σ (σ.set a o'):=λF I=>⟨λb R=>PH.set_ne _ _ λq=>I (q▸R),λb o eo s=>by
  rw[PH.set_ne]
  ·exact eo
  ·rintro rfl;obtain rfl:=sj (ea.symm.trans eo);exact ft (la.2.symm.trans s)⟩
 obtain⟨n,u1,u2⟩:=z.upd (σ.set a o') (λo0=>Ja dn') dn' (a::G') (ag A v) (ag B X) (r' _ (ag G' E)<|PH.set_same _ _ _) rfl;refine⟨n,u1,?_⟩;obtain⟨i1,m1⟩:=i.move (d':= .hole) (A:=[]) (B:=[]) (F:=f x) e r rfl (by rw[QH,Ku]);obtain⟨i2,o0⟩:=i1.called m1 (i.env.dom x) (σ':=σ.set a o') λb o eb I=>by
  rw[PH.set_ne]
  ·exact eb
  ·rintro rfl;exact I l
 have j:∀b∈A++((a::G')++B),b∈f x\/b∈Fv:=λb R=>by
  rw[J]
  rcases Qn.mp R with q|q
  ·exact .inl<|Qf _ q
  ·rcases Qn.mp q with q|q
   ·cases q with
    |head=>exact .inl<|Qe _ (.head _)
    |tail _ q=>exact(sub b q).imp_left λq=>Qe _<|.tail _ (Qf _ q)
   ·exact .inl<|Qe _ (.tail _<|Qe _ q)
 have M:∀b∈Fv,b∉A/\b∉B:=λb R=>⟨λq=>m.out b R x<|by rw[J];exact Qf _ q,λq=>m.out b R x<|by rw[J];exact Qe _<|.tail _ (Qe _ q)⟩
 have u:∀y,y≠x->∀b∈A++((a::G')++B),b∉f y:=λy W b R q=>by
  rcases j b R with w|w
  ·exact i.sep x g e y W b w q
  ·exact m.out b w y q
 have t:(A++((a::G')++B)).Nodup:=by
  refine Qo.mpr ⟨Y.1,Qy.mpr ⟨λq=>(Qn.mp q).elim E X,Qo.mpr ⟨U,n3.2.1,λb R c C q=> ?_⟩⟩,λb R c C q=> ?_⟩
  ·subst q
   rcases sub b R with w|w
   ·exact n3.2.2 b w b C rfl
   ·exact(M b w).2 C
  ·subst q
   rcases Qn.mp (show b∈(a::G')++B from C) with w|w
   ·cases w with
    |head=>exact v R
    |tail _ w=>
     rcases sub b w with w|w
     ·exact Y.2.2 b R b (.tail _<|Qf _ w) rfl
     ·exact(M b w).1 R
   ·exact Y.2.2 b R b (.tail _<|Qe _ w) rfl
 have H:=(i2.weak (P':=[]) λa h=>(bQ h)).put (x:=x) (b:=Jc) u2 (λo0=>⟨⟨t,λb R=>(j b R).elim (O b) (m.own b)⟩,λy W b R q=>by
   rw[cr W] at q;exact u y W b R q⟩) (λy d W o0 b R q=>by rw[cr W] at R;exact u y W b q R) (λb R=>(j b R).elim (i.src x b) λq=>i.newS b (m.own b q)) (λb R=>(bQ R)) (λw q=>by have:=i.pin x w q;obtain rfl:=sj (r.symm.trans this);rfl)
 rw[DRho.put_put,Rho.put_self _ r,lC] at H;exact H
end
structure RetOK(N:PH)(S:DSrc)(σ':PH)(d:D)(b:Bool)(v:PV)(F:List Jg):Prop where
 rd:RdF σ' d v F
 kept:Ext N σ'
 own:b=Jc->F.Nodup/\∀a∈F,N a=Jb
 src:∀a∈F,S a
structure QR(N:PH)(S:DSrc)(Q:bR)(Q':SPost):Prop where
 next:∀Δ ρ σ fp,Q .next Δ->Inv N S [] Δ ρ σ fp->Q' .next ρ σ
 ret:∀d b Δ v ρ σ F,Q (.ret d b) Δ->RetOK N S σ d b v F->Q' (.ret v) ρ σ
def XR(N:PH)(S:DSrc)(X:DSX)(H:gb):Prop:=∀c d ws Δ ρ σ fp F,X c d Δ->Inv N S [] Δ ρ σ fp->RdFs σ d ws F->MOK N [] fp F->H ⟨c,ws⟩ ρ σ
section
variable{N σ σ':PH}{S:DSrc}{P:List Jg}{Δ:DRho}{ρ:Rho}{fp:String->List Jg}
theorem Inv.less(h:Inv X S P Δ ρ σ fp)(x:Ext N X)(q:∀a,N a=Jb->S a):Inv N S P Δ ρ σ fp:=
 ⟨h.env,h.sep,λn d e=>⟨(h.own n d e).1,λa T=>x.new<|(h.own n d e).2 a T⟩,h.src,x.trans h.kept,h.pend,q,h.pin⟩
theorem RetOK.less{d:D}(h:RetOK X S σ d b v F)(x:Ext N X):RetOK N S σ d b v F:=
 ⟨h.rd,x.trans h.kept,λe=>⟨(h.own e).1,λa T=>x.new<|(h.own e).2 a T⟩,h.src⟩
theorem wR{e:D}(h:(Δ.frz t).get y=Ja (e,Jc)):Δ.get y=Ja (e,Jc)/\∀xs,t=Ja xs->y∈xs->e.atom=Jc:=by
 induction t with
 |none=>exact⟨h,λxs q=>(ns q)⟩
 |some xs=>
  rw[uW,DRho.get_map (λx q=>if xs.contains x then(q.1,q.1.atom&&q.2) else q)] at h;obtain⟨⟨d,c⟩,T,w⟩:=Qs.mp h;by_cases hx:xs.contains y=Jc
  ·rw[Y8 hx] at w
   induction C:d.atom with
   |false=>simp only[C,Bool.false_and] at w;cases w
   |true=>simp only[C,WP] at w;cases w;exact⟨T,λo0 o0 o0=>C⟩
  ·rw[Y7 hx] at w;cases w;refine⟨T,λs q W=> ?_⟩;obtain rfl:=sj q;exact absurd (by simpa using W) hx
theorem Inv.away(h:Inv N S P Δ ρ σ fp)(p:PartOK σ fp t F)(q:(Δ.frz t).get y=Ja (e,Jc)):Disj (fp y) F:=λa T b=>by
 obtain⟨c,Z⟩:=wR q;obtain⟨l,s⟩:=h.env.dom y a T
 induction t with
 |none=>have:=(p.own rfl).2 a b;exact sn<|s.symm.trans this
 |some x=>
  rcases p.al x rfl a b with w|⟨z,R,w⟩
  ·exact sn<|s.symm.trans w
  ·by_cases V:z=y
   ·subst V;obtain⟨v,o0,r⟩:=h.env.at_ z e Jc c;rw[r.atom (Z x rfl R)] at T;cases T
   ·exact h.sep y e c z V a T w
theorem Inv.srcP(h:Inv N S P Δ ρ σ fp)(p:PartOK σ fp t F):∀a∈F,S a:=λa T=>by
 induction t with
 |none=>exact h.newS a<|h.new0 ((p.own rfl).2 a T)
 |some x=>
  rcases p.al x rfl a T with w|⟨z,o0,w⟩
  ·exact h.newS a<|h.new0 w
  ·exact h.src z a w
theorem Inv.puts:∀ (xs:List String) (ds:List D) (vs:List PV) (F:List Jg) (Δ:DRho) (ρ:Rho) (fp:String->List Jg),Inv N S [] Δ ρ σ fp->ds.length=xs.length->RdFs σ ds vs F->(b=Jc->MOK N [] fp F)->
  (∀y e,Δ.get y=Ja (e,Jc)->Disj (fp y) F)->(∀a∈F,S a)->(∀x∈xs,S.pin x=Jb)->vs.length=xs.length/\∃f,Inv N S [] (Δ.puts xs ds b) (ρ.puts xs vs) σ f:=by
 intro xs
 induction xs with
 |nil=>
  intro ds vs F Δ ρ fp h l r _ _ _ _
  induction ds using List.casesOn with
  |cons=>cases l
  |nil=>obtain⟨rfl,rfl⟩:=r;exact⟨rfl,fp,h⟩
 |cons x xs i=>
  intro ds vs F Δ ρ fp h l V R o s n
  induction ds using List.casesOn with
  |nil=>cases l
  |cons d ds=>
   obtain⟨p,I,X,t,L,Z,v,M⟩:=V;subst L Z;have A:=h.put (x:=x) (b:=b) v (λq=>⟨⟨(Qo.mp (R q).nd).1,λa T=>(R q).own a (Qf _ T)⟩,λy W a T=>(R q).out a (Qf _ T) y⟩)
    (λy e W q a T j=>o y e q a T<|Qf _ j) (λa T=>s a<|Qf _ T) (λa T=>(bQ T)) (λw q=>by exact ns<|(n x<|.head _).symm.trans q)
   have hx:∀e,(Δ.put x (d,b)).get x=Ja (e,Jc)->b=Jc:=λe q=>by
    have m:=DRho.get_mem _ q;rw[DRho.put_keys] at m;rw[DRho.get_put _ m] at q;cases q;rfl
   have J:b=Jc->Disj X t:=λq a T j=>(Qo.mp (R q).nd).2.2 a T a j rfl;obtain⟨U,f,E⟩:=i ds I t _ _ _ A (Nat.succ.inj l) M (λq=>⟨(Qo.mp (R q).nd).2.1,λa T=>(R q).own a (Qe _ T),λa T y W=>by
     by_cases Q:y=x
     ·subst Q;rw[dm] at W;exact J q a W T
     ·rw[cr Q] at W;exact(R q).out a (Qe _ T) y W,λa T=>(bQ T)⟩)
    (λy e q a T j=>by
     by_cases Q:y=x
     ·subst Q;rw[dm] at T;exact J (hx e q) a T j
     ·rw[cr Q] at T;rw[DRho.get_put_ne Q] at q;exact o y e q a T (Qe _ j)) (λa T=>s a (Qe _ T)) (λy W=>n y (.tail _ W))
   exact⟨Ub (· +1) U,f,E⟩
theorem Inv.bindT{tg:Tg}{d:D}(h:Inv N S [] Δ ρ σ fp)(r:RdF σ d v F)(e:dK tg d b Δ=Ja H)(R:b=Jc->MOK N [] fp F)(o:∀y e,Δ.get y=Ja (e,Jc)->Disj (fp y) F)(E:∀a∈F,S a)(n:∀x∈tg.names,S.pin x=Jb):
  ∃ρ' f,bindT tg v ρ=Ja ρ'/\Inv N S [] H ρ' σ f:=by
 induction tg with
 |name x=>
  obtain rfl:=sj e;exact⟨_,_,rfl,h.put r (λq=>⟨⟨(R q).nd,(R q).own⟩,λy o0 a T=>(R q).out a T y⟩) (λy e o0 q=>o y e q) E (λa T=>(bQ T)) λw q=>by exact ns<|(n x<|.head _).symm.trans q⟩
 |tup Z=>
  induction d using D.casesOn with
  |tup s=>
   obtain⟨l,rfl,M,r⟩:=r;by_cases q:s.length=Z.length
   ·have g:Ja (Δ.puts Z s b)=Ja H:=by rw[<-e];exact(Y8 q).symm
    obtain rfl:=sj g;obtain⟨p,f,Y⟩:=Inv.puts (b:=b) Z s l F Δ ρ fp h q r R o E n;exact⟨_,f,Y8 p,Y⟩
   ·have g:Jb=Ja H:=by rw[<-e];exact(Y7 q).symm
    exact ns g
  |_=>first|exact bnx e|exact onx e|cases e
end
def Pins(P:DSrc)(f:String->Bool):Prop:=∀x v,P.pin x=Ja v->f x=Jc
theorem Pins.off{P:DSrc}{f:String->Bool}(h:Pins P f)(hx:f x=Jd):P.pin x=Jb:=by
 induction e:P.pin x with
 |none=>rfl
 |some v=>exact tf<|(h x v e).symm.trans hx
theorem Pins.imp{f g:String->Bool}(h:Pins P f)(k:∀x,f x=Jc->g x=Jc):Pins P g:=λx v e=>k x<|h x v e
section
variable(G:Gx)(cv cu:Cl)
def SDOK(s:S):Prop:=∀ (N:PH) (P:DSrc) (Δ:DRho) (ρ:Rho) (fp:String->List Jg) (σ:PH) (Q:bR) (X:DSX) (r:SPost) (H:gb),Inv N P [] Δ ρ σ fp->Pins P (S.noas · s)->dws G (aQ cv) (aQ cu) s Δ Q X->
 QR N P Q r->XR N P X H->ws G cv cu s ρ σ r H
def SDOKs(s:List S):Prop:=∀ (N:PH) (P:DSrc) (Δ:DRho) (ρ:Rho) (fp:String->List Jg) (σ:PH) (Q:bR) (X:DSX) (r:SPost) (H:gb),Inv N P [] Δ ρ σ fp->Pins P (S.noass · s)->dwss G (aQ cv) (aQ cu) s Δ Q X->
 QR N P Q r->XR N P X H->wss G cv cu s ρ σ r H
end
section
variable{G:Gx}{cv cu:Cl}
theorem XR.ext{fp:String->List Jg}(h:XR N P X H)(i:Inv N P [] Δ ρ σ fp){ws:List PV}(q:X c ds Δ)(x:XOK σ σ' ds ws F):H ⟨c,ws⟩ ρ σ':=
 h c ds ws Δ ρ σ' fp F q (i.ext x.ext) x.rd ⟨x.nd,λa T=>i.new0<|x.own a T,λa T y W=>(by obtain⟨l,e⟩:=i.env.dom y a W;exact ns<|(x.own a T).symm.trans e),λa T=>(bQ T)⟩
theorem zy:SDOK G cv cu (.assign (.name x) e):=λN P Δ ρ fp σ Q X M H i p h q s=>
 bo e Δ ρ fp σ _ _ _ _ i.env h (λd t v O F h r=>q.next _ _ _ _ h (((i.ext r.ext).frz t).put r.rd (λb=>by
   have m:=i.fresh r.part (Kd.mp b);exact⟨⟨m.nd,m.own⟩,λy o0 a T=>m.out a T y⟩)
  (λy e o0 w=>i.away r.part w) (i.srcP r.part) (λa T=>(bQ T)) λw e=>by rw[p.off (show(!(Tg.name x).names.contains x)=Jd by simp[Tg.names])] at e;exact ns e)) λo0 o0 o0 o0 o0 w x=>s.ext i w x
theorem Bq:SDOK G cv cu (.assign (.tup xs) e):=λN P Δ ρ fp σ Q X M K i p h q s=>
 ⟨h.1,bo e Δ ρ fp σ _ _ _ _ i.env h.2 (λd t v m F h r=>by
  obtain⟨H,T,h⟩:=fV h;obtain⟨O,f,j,n⟩:=((i.ext r.ext).frz t).bindT r.rd T (λb=>i.fresh r.part (Kd.mp b)) (λy e w=>i.away r.part w) (i.srcP r.part) (λy W=>p.off (show(!(Tg.tup xs).names.contains y)=Jd by simpa using W));rw[j];exact q.next _ _ _ _ h n) λo0 o0 o0 o0 o0 w x=>s.ext i w x⟩
theorem Bo:SDOK G cv cu (.ret e):=λN P Δ ρ fp σ Q X M O i p h q s=>by
 rcases h with h|h
 ·exact pO e N P [] Δ fp Δ ρ fp σ _ _ _ i i.env h λd H f v σ' F h n r m o0=>q.ret _ _ _ _ _ _ F h ⟨r,n.kept,λo0=>⟨m.nd,m.own⟩,λa D=>n.newS a<|m.own a D⟩
 ·exact bo e Δ ρ fp σ _ _ _ _ i.env h (λd t v T F h r=>q.ret _ _ _ _ _ _ F h ⟨r.rd,i.kept.trans r.ext,λb=>by
   have m:=i.fresh r.part (Kd.mp b);exact⟨m.nd,m.own⟩,i.srcP r.part⟩) λo0 o0 o0 o0 o0 w x=>s.ext i w x
theorem BV(R:SDOKs G cv cu b)(T:SDOKs G cv cu o):SDOK G cv cu (.if_ t b o):=λN P Δ ρ fp σ Q X M H i p h q s=>
 bo t Δ ρ fp σ _ _ _ _ i.env h (λd g v m F h r=>by
  obtain⟨c,rfl,h⟩:=eH h;rw[r.rd.1]
  induction c with
  |true=>exact R N P Δ ρ fp m Q X M H (i.ext r.ext) (p.imp λx e=>(Qh.mp (show(S.noass x b&&S.noass x o)=Jc from e)).1) h q s
  |false=>exact T N P Δ ρ fp m Q X M H (i.ext r.ext) (p.imp λx e=>(Qh.mp (show(S.noass x b&&S.noass x o)=Jc from e)).2) h q s) λo0 o0 o0 o0 o0 w x=>s.ext i w x
theorem rf:∀ {ds:List D} {ws:List PV} {F:List Jg},RdFs σ ds ws F->RdFs σ (ds.map λo0=> .hole) ws []
 |[],ws,F,r=>⟨r.1,rfl⟩
 |d::ds,ws,F,r=>by
  obtain⟨p,s,j,q,rfl,o0,o0,M⟩:=r;exact⟨p,s,[],[],rfl,rfl,rfl,rf M⟩
theorem vS{args:List E}:SDOK G cv cu (.raise c args):=λN P Δ ρ fp σ Q X t H i p h q s=>
 ⟨h.1,dh args Δ ρ fp σ _ _ _ _ i.env h.2 (λd v m b h x r=>by
  obtain⟨F,g,j⟩:=r.rds.take (G.flds c).length;exact s.ext i h ⟨rf g,x,.nil,λa T=>(bQ T)⟩) λo0 o0 o0 o0 o0 w x=>s.ext i w x⟩
theorem QR.fl{K:DRho->Prop}{K':Rho->PH->Prop}(q:QR N P Q Q')(k:∀Δ ρ σ fp,K Δ->Inv N P [] Δ ρ σ fp->K' ρ σ):QR N P (donFl K Q) (onFl K' Q'):=⟨k,q.ret⟩
theorem yz:SDOKs G cv cu []:=λN P Δ ρ fp σ Q X r H i p h q x=>q.next _ _ _ _ h i
theorem xB(E:SDOK G cv cu s)(n:SDOKs G cv cu r):SDOKs G cv cu (s::r):=λN P Δ ρ fp σ Q X t H i p h q O=>
 E N P Δ ρ fp σ _ X _ H i (p.imp λx e=>(Qh.mp (show(S.noas x s&&S.noass x r)=Jc from e)).1) h (q.fl λu j m f Y w=>n N P u j f m Q X t H w (p.imp λx e=>(Qh.mp (show(S.noas x s&&S.noass x r)=Jc from e)).2) Y q O) O
end
section
variable{G:Gx}{cv cu:Cl}
theorem MOK.one{fp:String->List Jg}(m:MOK N P fp F):MOK N [] fp F:=⟨m.nd,m.own,m.out,λa h=>(bQ h)⟩
theorem q0{ds:List D}{l:List PV}{F:List Jg}(r:RdFs σ ds l F){d:D}{Fv:List Jg}(S:RdF σ d v Fv)(x:F.Nodup)(V:Fv.Nodup)(J:Disj Fv F):
  ∃G',RdFs σ (ds.set j d) (l.set j v) G'/\G'.Nodup/\∀b∈G',b∈F\/b∈Fv:=by
 by_cases H:j<ds.length
 rotate_left
 ·rw[List.set_eq_of_length_le (Nat.le_of_not_lt H),List.set_eq_of_length_le (by rw[r.len];exact Nat.le_of_not_lt H)];exact⟨F,r,x,λb h=> .inl h⟩
 obtain⟨p,A,B,y,I,rfl,L,g⟩:=r.split j ds[j] (Qg H);have n:=Qo.mp x;have z:=Qo.mp n.2.1;refine⟨A++(Fv++B),g σ d v Fv .refl .refl S,Qo.mpr ⟨n.1,Qo.mpr ⟨V,z.2.1,λa T b h q=> ?_⟩,λa T b h q=> ?_⟩,λb h=> ?_⟩
 ·subst q;exact J a T<|Qe _ (Qe _ h)
 ·subst q
  rcases Qn.mp h with w|w
  ·exact J a w<|Qf _ T
  ·exact n.2.2 a T a (Qe _ w) rfl
 ·rcases Qn.mp h with w|w
  ·exact .inl<|Qf _ w
  ·rcases Qn.mp w with w|w
   ·exact .inr w
   ·exact .inl<|Qe _ (Qe _ w)
theorem RdFs.snoc(r:RdFs σ ds l F){d:D}(S:RdF σ d v Fv):RdFs σ (ds++[d]) (l++[v]) (F++Fv):=r.app ⟨v,[],Fv,[],rfl,(QH _).symm,S,rfl,rfl⟩
theorem uI{ks:List (List KA)}{l:List PV}{F:List Jg}(r:RdFs σ ds l F)(T:l.length<lim)(M:ks.length=l.length){d:D}{Fv:List Jg}(S:RdF σ d v Fv)(x:F.Nodup)(V:Fv.Nodup)(J:Disj Fv F):
  ∃G',(∀σ',Ag G' σ σ'->σ' a=Ja (kset ks l k v)->RdF σ' (dkset ks ds k d) (.ref a) (a::G'))/\G'.Nodup/\∀b∈G',b∈F\/b∈Fv:=by
 unfold kset dkset;cases kidx ks k with
 |some j=>
  obtain⟨G',Z,g,H⟩:=q0 (j:=j) r S x V J;exact⟨G',λσ' ag e=>⟨a,_,G',rfl,e,by rw[WC];exact⟨Kv T,M⟩,rfl,Z.ag ag⟩,g,H⟩
 |none=>
  refine⟨F++Fv,λσ' ag e=>⟨a,_,_,rfl,e,by rw[QG,QG,M];exact⟨T,rfl⟩,rfl,(r.snoc S).ag ag⟩,Qo.mpr ⟨x,V,λb h c C q=>J c C<|q▸h⟩,λb h=>Qn.mp h⟩
theorem kT(h:place n k=Ja j):j<n:=by
 unfold place at h;by_cases i:0<=k
 ·rw[Y8 i] at h;by_cases E:k<n
  ·rw[Y8 E] at h;obtain rfl:=sj h;exact(KV i).mpr E
  ·rw[Y7 E] at h;exact ns h
 ·rw[Y7 i] at h;by_cases E:0<=k+n
  ·rw[Y8 E] at h;obtain rfl:=sj h;exact(KV E).mpr (zng i)
  ·rw[Y7 E] at h;exact ns h
theorem Bn:SDOK G cv cu (.setIdx o i e):=λN P Δ ρ fp σ Q X Q' X' iv pn h q xr=>
 pO e N P [] Δ fp Δ ρ fp σ _ _ _ iv iv.env h λd u M v ab F h i1 rv m o0=>
 jm i1.env o _ _ h λx ps dn O vn dx vx A Fn B h x2 ex ev J z=>
 bo i u ρ M O _ _ _ _ (i1.env.ext x2) h (λdi t vi V Fi h c=>by
  have L:=i1.ext<|x2.trans c.ext;have s:=z.ext c.ext;have nd:=(L.own x dx ex).1;rw[J] at nd;have U:=rv.ext<|x2.trans c.ext;have fin:∀ {I:D} {W:D} {f:PH} {C:String->List Jg},dput u x ps I (λaa=>Q .next aa)->updp ps (λo0=>Ja I) dx=Ja W->Inv N P [] (u.put x (W,Jc)) ρ f C->Q' .next ρ f:=λh R Y=>by
   obtain⟨⟨H,b⟩,e1,h⟩:=eh h;rw[ex] at e1;cases e1;obtain⟨H,e2,h⟩:=gS h;obtain rfl:=sj<|R.symm.trans e2;exact q.next _ _ _ _ h Y
  induction dn using D.casesOn with
  |list l=>
   obtain⟨n,rfl,h⟩:=eS h;obtain⟨j,hj,h⟩:=hZ h;have hv:=c.rd.1;obtain⟨a,K,Gn,S,ea,T,y,r⟩:=s.rd;subst S y hv;refine .inr ?_;show onO _ (V a);rw[ea];show oNat _ (place K.length n);rw[r.len,hj];refine⟨r.len▸T,?_⟩;have n2:=(Qy.mp (Qo.mp nd).2.1).2;obtain⟨G',Z,g,g3⟩:=q0 (j:=j) r U (Qo.mp n2).1 m.nd λb hb hg=>m.out b hb x (by rw[J];exact Qe _<|.tail _ (Qf _ hg));obtain⟨W,R,Y⟩:=L.upd ex ev J s (dn':= .list (l.set j d)) (o':= .list (K.set j v)) (λac ag e=>⟨a,_,G',rfl,e,by rw[WC];exact T,rfl,Z.ag ag⟩) g g3 m.one;exact fin h R Y
  |dict ks l=>
   obtain⟨a,K,Gn,S,ea,T,y,r⟩:=s.rd;subst S y;refine .inl ?_;show onDO _ (V a);rw[ea];have p:K.length<lim:=by rw[r.len];exact h.1
   refine⟨p,tX c.rd h.2 λkey h=> ?_⟩;have n2:=(Qy.mp (Qo.mp nd).2.1).2;obtain⟨G',Z,g,g3⟩:=uI (ks:=ks) (a:=a) (k:=key) r p T.2 U (Qo.mp n2).1 m.nd λb hb hg=>m.out b hb x (by rw[J];exact Qe _<|.tail _ (Qf _ hg));obtain⟨W,R,Y⟩:=L.upd ex ev J s Z g g3 m.one;exact fin h R Y
  |_=>exact h.elim) λo0 o0 o0 o0 o0 w o0=>w.elim
theorem mh{S:DSrc}{Δ:DRho}{ρ:Rho}{fp:String->List Jg}(i:Inv N S P Δ ρ σ fp){A Fn B:List Jg}
  (ex:Δ.get x=Ja (u,Jc))(Y:ρ.get x=Ja L)(F:fp x=A++(Fn++B))(z:Zip σ u L A Fn B ps Z I)(g:RdFs σ ds vs Fv)(mv:MOK N [] fp Fv){K:D->Prop}
  (h:dmeth m ds Z K)(k:∀dn' n M σ' f,K dn'->updp ps (λo0=>Ja dn') u=Ja n->Inv N S [] (Δ.put x (n,Jc)) ρ σ' f->K' M σ'):wmeth m I vs σ K':=by
 have nd:=(i.own x u ex).1;rw[F] at nd
 induction m with
 |append=>
  match ds,h,g with
  |[d],h,g=>
   obtain⟨l,rfl,E,p⟩:=fy h;obtain⟨a,j,J,s,y,H,T,r⟩:=z.rd;subst s T;have hv:=g.len
   match vs,hv,g with
   |[v],_,g=>
    show onO _ (σ a);rw[y];have t:j.length<lim:=by rw[r.len];exact E
    have O:=(Qy.mp (Qo.mp nd).2.1).2;obtain⟨W,w,X⟩:=i.upd ex Y F z (dn':= .list (l++[d])) (o':= .list (j++[v])) (λσ' ag e=>⟨a,_,_,rfl,e,by rw[QG];exact t,rfl,(r.app g).ag ag⟩) (Qo.mpr ⟨(Qo.mp O).1,mv.nd,λb R c C q=>by
      subst q;exact mv.out b C x (by rw[F];exact Qe _ (.tail _ (Qf _ R)))⟩) (λb R=>Qn.mp R) mv
    exact⟨t,k _ _ _ _ _ p w X⟩
theorem ArgsR.rds{ds:List D}{F:List (List Jg)}(r:ArgsR σ (ds.map λd=>(d,Jc)) vs F):RdFs σ ds vs F.flatten:=by
 induction ds generalizing vs F with
 |nil=>cases r;exact⟨rfl,rfl⟩
 |cons d ds h=>cases r with|cons f M y i=>exact⟨_,_,_,_,rfl,rfl,f,h i⟩
theorem kL{d:D}(r:RdF σ d v F)(h:drecv m d):recv m σ v:=by
 have h:dLst (λo0=>True) d/\(recv m σ v=onL σ (λo0=>True) v):=by
  induction m with
  |_=>exact⟨h,rfl⟩
 rw[h.2];obtain⟨l,rfl,o0⟩:=fy h.1;obtain⟨a,k,G,rfl,e,o0⟩:=r;show onL σ _ _;rw[gA e];trivial
theorem lI:∀ks:List (List KA),kidx ks k=Jb->kidx (ks++[k]) k=Ja ks.length
 |[]=>λo0=>Y8 rfl
 |y::r=>λh=>by
  have h:(if y=k then Ja 0 else(kidx r k).map (· +1))=Jb:=h;by_cases e:y=k
  ·exact sn<|(Y8 e).symm.trans h
  ·rw[Y7 e] at h;show(if y=k then Ja 0 else(kidx (r++[k]) k).map (· +1))=_;rw[Y7 e,lI r (Option.map_eq_none_iff.mp h)];rfl
theorem s0:∀ {ks:List (List KA)},kidx ks k=Ja j->j<ks.length:=λ{ks}=>by
 induction ks generalizing j with
 |nil=>intro h;exact ns h
 |cons y r W=>
  intro h;have h:(if y=k then Ja 0 else(kidx r k).map (· +1))=Ja j:=h;by_cases e:y=k
  ·obtain rfl:=sj<|(Y8 e).symm.trans h;exact Nat.succ_pos _
  ·rw[Y7 e] at h;obtain⟨i,E,rfl⟩:=Qs.mp h;exact Yn<|W E
theorem r9{ks:List (List KA)}{l:List PV}(T:ks.length=l.length)(h:klook ks l k=Jb):klook (ks++[k]) (l++[v]) k=Ja v:=by
 have q:kidx ks k=Jb:=by
  induction e:kidx ks k with
  |none=>rfl
  |some j=>
   unfold klook at h;rw[e] at h;have h:l[j]? =Jb:=h;rw[WU] at h;have:=s0 e;exact absurd this<|Kc.mpr (zle (QT T) h)
 unfold klook;rw[lI ks q];show(l++[v])[ks.length]? =_;rw[T,WO<|QA _,Nat.sub_self];rfl
theorem DRho.put_self:∀ρ:DRho,ρ.get x=Ja v->ρ.put x v=ρ
 |(y,o)::r,h=>by
  by_cases W:y=x
  ·simp only[DRho.get_if,W,if_true] at h;simp only[DRho.put_if,W,if_true,h]
  ·simp only[DRho.get_if,W,if_false] at h;simp only[DRho.put_if,W,if_false,DRho.put_self r h]
theorem x9{Δ:DRho}{ρ:Rho}{fp:String->List Jg}{args:List E}{key:List KA}(i:Inv N P [] Δ ρ σ fp)(q:QR N P Q Q')
  (ex:Δ.get x=Ja (.dict ks l,Jc))(X:ρ.get x=Ja (.ref a))(C:σ a=Ja (.dict ks v))(s:keyD dk=Ja key)(el:klook ks v key=Ja p)
  (h:dOD (λn=>drecv m n/\dwes G (aQ cv) args Δ (λvs=>tjs vs=Jb/\dmeth m (fsts vs) n λdn'=>dOD (λd=>Q .next<|Δ.put x (d,Jc))<|dset1 dk (λo0=>Ja dn') (.dict ks l)) λo0 o0=>False) (dsub (.dict ks l) dk)):
  recv m σ p/\wes G cv args ρ σ (λvs O=>wmeth m p vs O λo0 σ1=>Q' .next ρ σ1) X':=by
 obtain⟨n,H,Y,L⟩:=gS h;obtain⟨k',R,T⟩:=Qr.mp (show((keyD dk).bind λk=>dlook ks l k)=Ja n from H);obtain rfl:=sj<|s.symm.trans R;obtain⟨K,e,r⟩:=i.env.at_ x _ _ ex;obtain rfl:=sj<|X.symm.trans e;obtain⟨p',t,y,B,⟨g,u,c,Z,A⟩,J,z⟩:=(Zip.here r).key s T;cases c;rw[C] at Z;cases Z;obtain rfl:=sj<|el.symm.trans A;refine⟨kL z.rd Y,?_⟩;refine dh args Δ ρ fp σ _ _ _ _ i.env L (λI vs O Fs h W V=> ?_) λo0 o0 o0 o0 o0 w o0=>w.elim;have F:fp x=t++(y++B):=by rw[<-J,QH,Ku]
 exact mh (i.ext W) ex X F (z.ext W) V.rds (i.fresh V.part h.1) h.2 λdn' j K S M b U f=>by
  obtain⟨d2,R,b⟩:=gS b;have U:dset1 dk (λo0=>Ja dn') (.dict ks l)=Ja j:=U;obtain rfl:=sj<|U.symm.trans R;exact q.next _ _ _ _ b f
theorem BS{args:List E}{fp:String->List Jg}(i:Inv N P [] Δ ρ σ fp)(h:dsd G (aQ cv) m args Δ (λH=>Q .next H) x k)(q:QR N P Q Q'):
  ws G cv cu (.expr<|.meth (.sd (.loc x) k) m args) ρ σ Q' X':=by
 obtain⟨⟨d,b⟩,e,g,h⟩:=eh h;cases g;obtain⟨s,l,g,h⟩:=oW h;cases g;obtain⟨v,W,a,K,n,rfl,ea,J,F,r⟩:=i.env.at_ x _ _ e;show oV _ (ρ.get x);rw[W];refine⟨?_,bo k Δ ρ fp σ _ _ _ _ i.env h (λdk t vk T Fk h X=> ?_) λo0 o0 o0 o0 o0 w o0=>w.elim⟩
 ·show onDO _ (σ a);rw[ea];trivial
 have B:=X.ext a _ ea;have f:=r.ext X.ext;have S:=i.ext X.ext;obtain⟨V,h⟩:=h;have D:K.length<lim:=by rw[r.len];exact V
 obtain⟨key,O,h⟩:=i4 h;show onDO _ (T a);rw[B];refine⟨D,?_⟩;rw[ma X.rd O]
 induction Z:dlook s l key with
 |some dn=>
  have I:dens s l key= .dict s l:=by unfold dens;rw[Z]
  rw[I,DRho.put_self _ e] at h;obtain⟨j,p,G',o0,o0,o0,L,o0,o0⟩:=f.look Z;show(match klook s K key with
   |some v=>_
   |none=>_)
  rw[L];exact x9 S q e W B O L h
 |none=>
  have I:dens s l key= .dict (s++[key]) (l++[.list []]):=by unfold dens;rw[Z]
  rw[I] at h;show(match klook s K key with
   |some v=>_
   |none=>_)
  rw[jP f Z];intro b R;have Y:b∉fp x:=λw=>by obtain⟨o,U⟩:=S.env.dom x b w;exact ns<|R.symm.trans U
  have M:Ext T (T.set b (.list [])):=Ext.set R _;have i2:=S.ext M;have ab:b≠a:=λw=>Y (by rw[F,w];exact .head _);have m2:MOK N [] fp [b]:=⟨Qy.mpr ⟨λw=>(bQ w),.nil⟩,λc C=>(Qk.mp C)▸S.new0 R,λc C y u=>(by
   rw[Qk.mp C] at u;obtain⟨o,U⟩:=S.env.dom y b u;exact ns (R.symm.trans U)),λc C=>(bQ C)⟩
  have rb:RdF (T.set b<|.list []) (.list []) (.ref b) [b]:=⟨b,[],[],rfl,PH.set_same _ _ _,QV _,rfl,rfl,rfl⟩
  have r2:=(f.ext M).snoc rb;have nd:=(i.own x _ e).1;rw[F] at nd;have z:Zip (T.set b<|.list []) (.dict s l) (.ref a) [] (a::n) [] [] (.dict s l) (.ref a):= .here ⟨a,K,n,rfl,M a _ B,J,rfl,f.ext M⟩;obtain⟨aa,u1,u2⟩:=i2.upd e W (by rw[F,QH,Ku]) z (dn':= .dict (s++[key]) (l++[.list []])) (o':= .dict (s++[key]) (K++[.ref b])) (G':=n++[b]) (Fv:=[b])
   (λac ag e=>⟨a,_,_,rfl,e,by rw[QG,QG,J.2];exact⟨D,rfl⟩,rfl,r2.ag ag⟩) (Qo.mpr ⟨(Qy.mp nd).2,m2.nd,λc C c' A w=>by
    rw[Qk.mp A] at w;exact Y (by rw[F,<-w];exact .tail _ C)⟩) (λc C=>Qn.mp C) m2
  obtain rfl:=sj u1;have hm:x∈keysD Δ:=DRho.get_mem _ e;refine x9 u2 q (DRho.get_put _ hm) W (PH.set_same _ _ _) O (p:= .ref b) (r9 J.2<|jP f Z) ?_;simp only[DRho.put_put];exact h
section
variable{o:E}{m:Me}{args:List E}{N:PH}{P:DSrc}{Δ:DRho}{ρ:Rho}{fp:String->List Jg}{σ:PH}{Q:bR}{Q':SPost}{X':gb}
theorem Al(i:Inv N P [] Δ ρ σ fp)(h:dmeE G (aQ cv) m args Δ (λH=>Q .next H) (.loc x) (Ja x) Jb)(q:QR N P Q Q'):ws G cv cu (.expr (.meth (.loc x) m args)) ρ σ Q' X':=by
 obtain⟨⟨d,X⟩,D,U⟩:=eh h.1;obtain⟨v,W,r⟩:=i.env.at_ x d X D;show oV _ (ρ.get x);rw[W];refine⟨kL r U,?_⟩;refine mI args N P [] Δ fp Δ ρ fp σ _ _ _ i i.env h.2 λz u f J O I h w j s o0=> ?_;obtain⟨⟨d1,a⟩,T,E,p⟩:=eh h;cases E;obtain⟨K,e,M⟩:=w.env.at_ x d1 Jc T;obtain rfl:=sj<|W.symm.trans e;exact mh w T W (A:=[]) (B:=[]) (by rw[QH,Ku]) (.here M) j.rds s p λn b K Y V k C F=>by obtain rfl:=sj C;exact q.next _ _ _ _ k F
theorem vH(i:Inv N P [] Δ ρ σ fp)(h:dmeE G (aQ cv) m args Δ (λH=>Q .next H) o Jb Jb)(q:QR N P Q Q'):ws G cv cu (.expr (.meth o m args)) ρ σ Q' X':=by
 refine jm i.env o _ _ h λx p Z T n g L A Fn B h M ex v F z=> ?_;refine⟨kL z.rd h.1,?_⟩;refine dh args Δ ρ fp T _ _ _ _ (i.env.ext M) h.2 (λs J O I h W r=> ?_) λo0 o0 o0 o0 o0 w o0=>w.elim;exact mh (i.ext<|M.trans W) ex v F (z.ext W) r.rds ((i.ext M).fresh (r.part) h.1) h.2 λd b K X f k U V=>by
  obtain⟨⟨d1,a⟩,e,k⟩:=eh k;rw[ex] at e;cases e;obtain⟨y,j,k⟩:=gS k;obtain rfl:=sj<|U.symm.trans j;exact q.next _ _ _ _ k V
end
theorem vm{t:E×E}(h:sdOf o=Ja t):o= .sd t.1 t.2:=by
 induction o using E.casesOn with
 |sd a k=>obtain rfl:=sj h;rfl
 |_=>first|exact bnx h|exact onx h|cases h
theorem zX{args:List E}:SDOK G cv cu (.expr (.meth o m args)):=λN P Δ ρ fp σ Q X Q' X' i p h q r=>by
 have h:dmeE G (aQ cv) m args Δ (λH=>Q .next H) o (locOf o) (sdOf o):=h
 induction l:locOf o with
 |some x=>
  cases jI l;exact Al i h q
 |none=>
  rw[l] at h
  induction s:sdOf o with
  |some k=>
   rw[s] at h;have h:dsdL G (aQ cv) m args Δ (λH=>Q .next H) k.2 (locOf k.1):=h
   induction a:locOf k.1 with
   |none=>rw[a] at h;exact h.elim
   |some x=>
    rw[a] at h;rw[vm s,jI a];exact BS i h q
  |none=>
   rw[s] at h;exact vH i h q
theorem wZ(O:∀Δ K X,dexpr G (aQ cv) e Δ K X=dwe G (aQ cv) e Δ (λo0 o0=>K Δ) λc l=>X c l Δ):SDOK G cv cu (.expr e):=λN P Δ ρ fp σ Q X Q' X' i p h q s=>by
 have h:dexpr G (aQ cv) e Δ (λH=>Q .next H) X:=h;rw[O] at h;exact bo e Δ ρ fp σ _ _ _ _ i.env h (λd t v T F h r=>q.next _ _ _ _ h<|i.ext r.ext) λo0 o0 o0 o0 o0 w x=>s.ext i w x
theorem qY(b:List E):∀ (a:List E) (σ:PH) (Q:List PV->PH->Prop),wes G c (a++b) ρ σ Q X=wes G c a ρ σ (λvs σ1=>wes G c b ρ σ1 (λws O=>Q (vs++ws) O) X) X
 |[]=>λσ Q=>rfl
 |e::s=>λσ Q=>by
  have:(λv σ1=>wes G c (s++b) ρ σ1 (λvs O=>Q (v::vs) O) X)=λv σ1=>wes G c s ρ σ1 (λvs σ1=>wes G c b ρ σ1 (λws O=>Q (v::(vs++ws)) O) X) X:=by
   funext v σ1;exact qY b s σ1 _
  exact Ub (λK=>we G c e ρ σ K X) this
theorem wU:∀ {l a:List E} {x:String} {b:List E},spl Δ l=Ja (a,x,b)->l=a++ .loc x::b:=λ{l}=>by
 induction l with
 |nil=>exact λh=>ns h
 |cons e r i=>
  intro a x b h;have t:(spl Δ r).map (λq=>(e::q.1,q.2))=Ja (a,x,b)->e::r=a++ .loc x::b:=λh=>by
   obtain⟨⟨Y,n,c⟩,p,w⟩:=Qs.mp h;cases w;exact Ub (e:: ·)<|i p
  replace h:splO Δ r ((spl Δ r).map λq=>(e::q.1,q.2)) (locOf e)=_:=h
  induction T:locOf e with
  |none=>rw[T] at h;exact t h
  |some y=>
   rw[T] at h;replace h:cond (ownD<|Δ.get y) _ _=_:=h;by_cases d:ownD (Δ.get y)=Jc
   ·rw[d] at h;cases h;rw[jI T];rfl
   ·rw[Bool.not_eq_true] at d;rw[d] at h;exact t h
theorem qC{S:DSrc}{Δ:DRho}{fp:String->List Jg}{d:D}(i:Inv N S P Δ ρ σ fp)(ex:Δ.get x=Ja (d,Jc))(r:ERs σ fp σ' ds vs s):
  offs x ds=Jc->ArgsR σ' (lent ds) vs s/\owned (lent ds) s=[]/\∀F∈s,Disj (fp x) F:=by
 induction r with
 |nil=>exact λo0=>⟨.nil,rfl,λF h=>(bQ h)⟩
 |@cons X t v F ds vs s r p q h A=>
  intro Y;obtain⟨k,u⟩:=Qh.mp (show(offT x t&&offs x ds)=Jc from Y);obtain⟨E,B,C⟩:=A u;refine⟨.cons r (λe=>(ft e)) (λp K e=> ?_) E,B,λI J=> ?_⟩
  ·obtain⟨y,W⟩:=Ql.mp (Kx K).1
   rcases e with e|e
   ·exact ft e
   ·rw[<-W.2] at e;exact ft e
  ·cases J with
   |tail _ J=>exact C I J
   |head=>
    intro a T b;obtain⟨l,c⟩:=i.env.dom x a T
    induction t with
    |none=>have:=(p.own rfl).2 a b;exact sn<|c.symm.trans this
    |some H=>
     rcases p.al H rfl a b with w|⟨z,R,w⟩
     ·exact sn<|c.symm.trans w
     ·have n:z≠x:=by rintro rfl;simp[offT,mQ,R] at k
      exact i.sep x d ex z n a T w
theorem ArgsR.ext(C:ArgsR σ a v F)(x:Ext σ σ'):ArgsR σ' a v F:=by
 induction C with
 |nil=>exact .nil
 |cons r n d h i=>exact .cons (r.ext x) n d i
theorem ArgsR.app{a b:List (D×Bool)}(C:ArgsR σ a A O)(l:ArgsR σ b B I)(h:∀p∈a.zip O,∀q∈b.zip I,(p.1.2=Jc\/q.1.2=Jc)->Disj p.2 q.2):ArgsR σ (a++b) (A++B) (O++I):=by
 induction C with
 |nil=>exact l
 |@cons d c v F s J w r n j S i=>
  refine .cons r n (λp K e=> ?_) (i λp K q z=>h p (.tail _ K) q z);replace K:p∈(s++b).zip (w++I):=K;rw[List.zip_append (S.lens.2.symm)] at K
  rcases Qn.mp K with K|K
  ·exact j p K e
  ·exact h _ (.head _) p K e
theorem rE{a b:List (D×Bool)}{O I:List (List Jg)}(h:O.length=a.length):owned (a++b) (O++I)=owned a O++owned b I:=by
 induction a generalizing O with
 |nil=>induction O using List.casesOn with
  |nil=>rfl
  |cons=>cases h
 |cons p r i=>induction O using List.casesOn with
  |nil=>cases h
  |cons F s=>
   show(if p.2 then F else [])++owned (r++b) (s++I)=((if p.2 then F else [])++owned r s)++owned b I;rw[i (Nat.succ.inj h),Kn]
theorem Inv.back{S:DSrc}{Δ:DRho}{ρ:Rho}{fp:String->List Jg}(i:Inv N S [] Δ ρ σ fp){d d':D}(e:Δ.get x=Ja (d,Jc))(X:ρ.get x=Ja v)(o:IoOK σ (fp x) σ' d' v F):
  Inv N S [] (Δ.put x (d',Jc)) ρ σ' (fset fp x F):=by
 obtain⟨j,c⟩:=i.move (d':= .hole) (A:=[]) (B:=[]) (F:=fp x) e X rfl (by rw[QH,Ku]);obtain⟨u,o0⟩:=j.called c (i.env.dom x) o.kept;have T:=u.put (x:=x) (b:=Jc) o.rd (λo0=>⟨⟨o.nd,λb h=>(o.own b h).elim i.new0 ((i.own x d e).2 b)⟩,λy W b h q=>by
   rw[cr W] at q
   rcases o.own b h with w|w
   ·obtain⟨l,p⟩:=i.env.dom y b q;exact ns<|w.symm.trans p
   ·exact i.sep x d e y W b w q⟩) (λy g W o0 b h q=>by
   rw[cr W] at h
   rcases o.own b q with w|w
   ·obtain⟨l,p⟩:=i.env.dom y b h;exact ns<|w.symm.trans p
   ·exact i.sep x d e y W b w h) (λb h=>(o.own b h).elim (λw=>i.newS b (i.new0 w)) (i.src x b)) (λb h=>(bQ h)) (λw q=>by have:=i.pin x w q;obtain rfl:=sj (X.symm.trans this);rfl)
 rw[DRho.put_put,Rho.put_self _ X,lC] at T;exact T
theorem BU{args:List E}{fp:String->List Jg}(i:Inv N P [] Δ ρ σ fp)(h:dio G (aQ cv) f Δ (λH=>Q .next H) (spl Δ args))(q:QR N P Q Q'):
  ws G cv cu (.expr<|.call f args) ρ σ Q' X':=by
 induction s:spl Δ args with
 |none=>rw[s] at h;exact h.elim
 |some t=>
  obtain⟨a,x,b⟩:=t;rw[s] at h;rw[wU s];refine⟨h.1,?_⟩;rw[qY];refine dh a Δ ρ fp σ _ _ _ _ i.env h.2 (λu A T X h x1 V=> ?_) λo0 o0 o0 o0 o0 w o0=>w.elim;obtain⟨⟨d,o⟩,e,g,Y⟩:=eh h.2;cases g;obtain⟨v,W,o0⟩:=i.env.at_ x d Jc e;show oV _ (ρ.get x);rw[W];have S:=i.ext x1;refine dh b Δ ρ fp T _ _ _ _ S.env Y (λZ vb O I Y R rb=> ?_) λo0 o0 o0 o0 o0 w o0=>w.elim;have M:=S.ext R;obtain⟨v',n,r⟩:=M.env.at_ x d Jc e;obtain rfl:=sj<|W.symm.trans n;obtain⟨B,a2,a3⟩:=qC i e V h.1;obtain⟨k,b2,b3⟩:=qC S e rb Y.1;have ow:owned (lent u++(d,Jc)::lent Z) (X++fp x::I)=fp x:=by
   rw[rE B.lens.2,a2];show fp x++owned (lent Z) I=fp x;rw[b2,QH]
  have J:ArgsR O (lent u++(d,Jc)::lent Z) (A++v::vb) (X++fp x::I):=by
   refine(B.ext R).app (.cons r (λo0=>(i.own x d e).1) (λp K o0=>b3 _ (Kx K).2) k) λp K w L U=> ?_;cases L with
   |head=>exact λc hc hd=>a3 _ (Kx K).2 c hd hc
   |tail _ L=>
    have C:∀ (l:List (D×Tag)),∀y∈lent l,y.2=Jd:=λl y j=>by
     obtain⟨z,o0,rfl⟩:=Ql.mp j;rfl
    rw[C _ _ (Kx K).1,C _ _ (Kx L).1] at U
    rcases U with U|U<;>exact ft U
  refine Y.2 O _ _ _ _ v J (by
   have:A.length=u.length:=by have:=B.lens.1;rwa [Qd] at this
   rw[<-this,WO (QA _),Nat.sub_self];rfl) λd' aa F hq o=> ?_
  rw[ow] at o;exact q.next _ _ _ _ hq<|M.back e W o
theorem zo{args:List E}:SDOK G cv cu (.expr (.call f args)):=λN P Δ ρ fp σ Q X Q' X' i p h q s=>by
 rcases (show dio G (aQ cv) f Δ (λH=>Q .next H) (spl Δ args)\/dwe G (aQ cv) (.call f args) Δ (λo0 o0=>Q .next Δ) (λc l=>X c l Δ) from h) with h|h
 ·exact BU i h q
 ·exact bo _ Δ ρ fp σ _ _ _ _ i.env h (λd t v T F h r=>q.next _ _ _ _ h<|i.ext r.ext) λo0 o0 o0 o0 o0 w x=>s.ext i w x
theorem zQ(e:E):SDOK G cv cu (.expr e):=by
 induction e using E.casesOn with
 |meth o m args=>exact zX
 |call f args=>exact zo
 |_=>exact wZ λo0 o0 o0=>rfl
theorem zA{P:DSrc}{tg:Tg}{body:DRho->bR->Prop}{body':Rho->PH->SPost->Prop}{chk:PH->Prop}
  (R:∀Δ ρ σ fp K K',Inv N P [] Δ ρ σ fp->body Δ K->QR N P K K'->body' ρ σ K')(Z:∀σ,Ext N σ->chk σ)(q:QR N P Q Q')(L:∀a o,σ1 a=Ja o->o.fixed=Jc->N a=Ja o)(g:∀x∈tg.names,P.pin x=Jb):
  ∀ (xs:List D) (l:List PV) (Gx:List Jg) (Δ:DRho) (ρ:Rho) (σ:PH) (fp:String->List Jg),Inv N P [] Δ ρ σ fp->RdFs σ1 xs l Gx->(∀a∈Gx,N a=σ1 a/\P a)->gk tg body Q xs Δ->forGo chk tg body' Q' l ρ σ:=by
 intro xs
 induction xs with
 |nil=>
  intro l Gx Δ ρ σ fp i r n h;obtain⟨rfl,o0⟩:=r;exact⟨Z σ i.kept,q.next _ _ _ _ h i⟩
 |cons d z E=>
  intro l Gx Δ ρ σ fp i V n h;obtain⟨p,s,X,Y,S,j,v,M⟩:=V;subst S j;refine⟨Z σ i.kept,?_⟩;obtain⟨H,e,h⟩:=fV h;have F:∀a∈X,N a=σ1 a/\P a:=λa T=>n a (Qf _ T);have b:RdF σ d p X:=v.ag ⟨λa T=>by
    obtain⟨l,c⟩:=v.dom a T;rw[c];exact i.kept a _ ((F a T).1.trans c),λa o k u=>i.kept a o (L a o k u)⟩
  have away:∀y e,Δ.get y=Ja (e,Jc)->Disj (fp y) X:=λy e w a T W=>by
   obtain⟨l,c⟩:=v.dom a W;have:=(i.own y e w).2 a T;rw[(F a W).1,c] at this;exact sn this
  obtain⟨O,A,j,B⟩:=i.bindT b e (λR=>by rw[b.atom R];exact .nil) away (λa T=>(F a T).2) g;rw[j];exact R H O σ A _ _ B h<|q.fl λJ t C f U I=>E s Y J t C f I M (λa T=>n a<|Qe _ T) U
theorem sp(hb:SDOKs G cv cu b){Δ:DRho}{fp:String->List Jg}(z:G.calm=Jc)(i:Inv N P [] Δ ρ σ fp)(R:Pins P (S.noas · (.for_ tg k t b)))
  (h:dwes G (aQ cv) t Δ (λvs=>dsrc k (fsts vs) λxs=>gk tg (λΔ K=>dwss G (aQ cv) (aQ cu) b Δ K λo0 o0 o0=>False) Q xs<|Δ.frz (tjs vs)) (λc l=>X c l Δ))(q:QR N P Q Q')(I:XR N P X X'):ws G cv cu (.for_ tg k t b) ρ σ Q' X':=
 ⟨z,dh t Δ ρ fp σ _ _ _ _ i.env h (λf vs T s h x r=>p6 r h λxs l p Gx h M hl g hc=>⟨hl,pr λO L=>by
  have A:=(i.ext x).frz (tjs f)
  let U:PH:=open Classical in λa=>if a∈s.flatten\/¬ (∃l:MO,T a=Ja l.1) then T a else N a
  have Y:∀a∈s.flatten,U a=T a:=λa H=>Y8<|.inl H;have n2:∀a o,T a=Ja o->o.fixed=Jc->U a=Ja o:=λa o Z u=>(Y8 (.inr λz'=>by obtain⟨l,e⟩:=z';obtain rfl:=sj<|Z.symm.trans e;exact ft<|l.2.symm.trans u)).trans Z;have B:Ext N T:=i.kept.trans x;have n:Ext N U:=λa o e=>by
   by_cases c:a∈s.flatten\/¬ (∃l:MO,T a=Ja l.1)
   ·exact(Y8 c).trans (B a o e)
   ·exact(Y7 c).trans e
  have J:Ext U T:=λa o e=>by
   by_cases c:a∈s.flatten\/¬ (∃l:MO,T a=Ja l.1)
   ·exact(Y8 c).symm.trans e
   ·exact B a o<|(Y7 c).symm.trans e
  have i2:Inv U P [] (Δ.frz<|tjs f) ρ O fp:=by
   refine(Inv.mk A.env A.sep (λy d e=>⟨(A.own y d e).1,λa H=> ?_⟩) A.src J (λa H=>(bQ H)) (λa H=>i.newS a<|n.new H) A.pin:Inv U P [] (Δ.frz<|tjs f) ρ T fp).ext L;have V:=(A.own y d e).2 a H;have:¬ (a∈s.flatten\/¬ (∃l:MO,T a=Ja l.1)):=by
    rintro (c|c)
    ·exact i.away r.part e a H c
    ·exact c<|A.env.dom y a H
   exact(Y7 this).trans V
  have fin:=zA (N:=U) (P:=P) (tg:=tg) (chk:=p) (Q:=Q) (Q':=Q') (σ1:=T) (body:=λΔ K=>dwss G (aQ cv) (aQ cu) b Δ K λo0 o0 o0=>False) (body':=λρ σ K=>wss G cv cu b ρ σ K λo0 o0 o0=>False)
   (λΔ ρ σ fp K C i h q=>hb U P Δ ρ fp σ K _ C _ i (R.imp λx e=>(Qh.mp (show(!tg.names.contains x&&S.noass x b)=Jc from e)).2) h q λo0 o0 o0 o0 o0 o0 o0 o0 w o0 o0 o0=>w) (λD k=>hc D λa H=>by
    obtain⟨l,j⟩:=r.rds.dom a H;rw[j];exact k a _ ((Y a H).trans j))
   ⟨λΔ ρ σ fp w i=>q.next _ _ _ _ w<|i.less n A.newS,λd b Δ v ρ σ F w r=>q.ret _ _ _ _ _ _ _ w<|r.less n⟩ n2 (λy W=>R.off (show(!tg.names.contains y&&S.noass y b)=Jd by simp[W])) xs l Gx (Δ.frz<|tjs f) ρ O fp i2 M (λa H=>⟨Y a<|g a H,?_⟩) h
  ·exact fin
  ·exact i.srcP r.part a (g a H)⟩) λo0 o0 o0 o0 o0 w x=>I.ext i w x⟩
theorem ym{P:DSrc}{tg:Tg}{body:DRho->bR->Prop}{body':Rho->PH->SPost->Prop}{chk:PH->Prop}
  (hb:∀ (N:PH) (P':DSrc) Δ ρ σ fp K K',P'.pin=P.pin->Inv N P' [] Δ ρ σ fp->body Δ K->QR N P' K K'->body' ρ σ K')(E:∀σ,Ext N σ->chk σ)(q:QR N P Q Q')(hn:∀x∈tg.names,P.pin x=Jb):
  ∀ (xs:List D) (l:List PV) (Gx:List Jg) (Δ:DRho) (ρ:Rho) (σ:PH) (fp:String->List Jg),Inv N P Gx Δ ρ σ fp->RdFs σ xs l Gx->Gx.Nodup->(∀a∈Gx,N a=Jb)->hA tg body Q xs Δ->forGo chk tg body' Q' l ρ σ:=by
 intro xs
 induction xs with
 |nil=>
  intro l Gx Δ ρ σ fp i r _ _ h;obtain⟨rfl,o0⟩:=r;exact⟨E σ i.kept,q.next _ _ _ _ h<|i.weak λa T=>(bQ T)⟩
 |cons d ds ih=>
  intro l Gx Δ ρ σ fp i V nd C h;obtain⟨p,ps,F1,t,e1,j,B,M⟩:=V;subst e1 j;refine⟨E σ i.kept,?_⟩;obtain⟨U,e,h⟩:=fV h;have L:=Qo.mp nd
  let X:PH:=open Classical in λa=>if a∈t\/¬ (∃l:MO,σ a=Ja l.1) then σ a else N a
  have g:∀a∈t,X a=σ a:=λa T=>Y8<|.inl T;have m2:∀a o,σ a=Ja o->o.fixed=Jc->X a=Ja o:=λa o Z n=>(Y8 (.inr λz'=>by obtain⟨l,e⟩:=z';obtain rfl:=sj<|Z.symm.trans e;exact ft<|l.2.symm.trans n)).trans Z;have J:Ext N X:=λa o e=>by
   by_cases c:a∈t\/¬ (∃l:MO,σ a=Ja l.1)
   ·exact(Y8 c).trans (i.kept a o e)
   ·exact(Y7 c).trans e
  have m4:Ext X σ:=λa o e=>by
   by_cases c:a∈t\/¬ (∃l:MO,σ a=Ja l.1)
   ·exact(Y8 c).symm.trans e
   ·exact i.kept a o<|(Y7 c).symm.trans e
  have R:∀a∈t,∃l:MO,σ a=Ja l.1:=M.dom;have I:∀a,a∉t->(∃l:MO,σ a=Ja l.1)->N a=Jb->X a=Jb:=λa h1 Y h3=>(Y7<|not_or.mpr ⟨h1,λz=>z Y⟩).trans h3;have m6:∀a,X a=Jb->a∉t:=λa e w=>by obtain⟨l,s⟩:=R a w;exact sn<|s.symm.trans ((g a w).symm.trans e)
  let P':DSrc:=⟨λa=>P a/\a∉t,P.pin⟩
  have u:Inv X P' [] Δ ρ σ fp:=⟨i.env,i.sep,λy d e=>⟨(i.own y d e).1,λa T=>I a (λw=>(i.pend a (Qe _ w)).2 y T) (i.env.dom y a T) ((i.own y d e).2 a T)⟩,
   λy a T=>⟨i.src y a T,λw=>(i.pend a (Qe _ w)).2 y T⟩,m4,λa T=>(bQ T),λa e=>⟨i.newS a (J.new e),m6 a e⟩,i.pin⟩
  have mk:MOK X [] fp F1:=⟨L.1,λa T=>I a (λw=>L.2.2 a T a w rfl) (B.dom a T)<|C a (Qf _ T),λa T y=>(i.pend a<|Qf _ T).2 y,λa T=>(bQ T)⟩
  obtain⟨H,A,j,i'⟩:=u.bindT B e (λo0=>mk) (λy o0 o0 a T hf=>mk.out a hf y T) (λa T=>u.newS a<|mk.own a T) hn;rw[j];refine hb X P' U H σ A _ _ rfl i' h ⟨λk S O f Y W=> ?_,λd b Δ v ρ σ F w r=>q.ret _ _ _ _ _ _ _ w ⟨r.rd,J.trans r.kept,λe=>⟨(r.own e).1,λa T=>J.new<|(r.own e).2 a T⟩,λa T=>(r.src a T).1⟩⟩;have ag:Ag t σ O:=⟨λa T=>by obtain⟨l,s⟩:=R a T;rw[s];exact W.kept a _<|(g a T).trans s,λa o Z n=>W.kept a o<|m2 a o Z n⟩
  exact ih ps t k S O f ⟨W.env,W.sep,λy d e=>⟨(W.own y d e).1,λa T=>J.new<|(W.own y d e).2 a T⟩,λy a T=>(W.src y a T).1,J.trans W.kept,λa T=>⟨by obtain⟨l,s⟩:=R a T;exact⟨l,(ag.at_ a T).trans s⟩,λy w=>(W.src y a w).2 T⟩,i.newS,W.pin⟩
   (M.ag ag) L.2.1 (λa T=>C a<|Qe _ T) Y
theorem sX(hb:SDOKs G cv cu b){Δ:DRho}{fp:String->List Jg}(p:G.calm=Jc)(i:Inv N P [] Δ ρ σ fp)(t:Pins P (S.noas · (.for_ tg .val [e] b)))
  (h:dpath G (aQ cv) e Δ (λx o0 X=>dLst (λl=>hA tg (λΔ K=>dwss G (aQ cv) (aQ cu) b Δ K λo0 o0 o0=>False) Q l<|Δ.put x (.hole,Jc)) X) λo0 o0=>False)(q:QR N P Q Q'):ws G cv cu (.for_ tg .val [e] b) ρ σ Q' X':=
 ⟨p,jm i.env e _ _ h λx ps X T vn dx vx A Fn B h x1 ex ev J z=>by
  obtain⟨l,rfl,h⟩:=fy h;obtain⟨a,H,n,u,Z,hl,rfl,r⟩:=z.rd;rw[u];show onL T _ (.ref a);rw[gA Z];refine⟨hl,?_⟩;obtain⟨j,L⟩:=(i.ext x1).move (d':= .hole) (A:=[]) (B:=[]) (F:=fp x) ex ev rfl (by rw[QH,Ku]);have s:∀c∈a::n,c∈fp x:=λc C=>by rw[J];exact Qe _<|Qf _ C
  have nd:(a::n).Nodup:=by have:=L.nd;rw[J] at this;exact(Qo.mp (Qo.mp this).2.1).1
  have O:=Qy.mp nd;have na:N a=Jb:=L.own a<|s a (.head _)
  let I:PH:=λc=>if c=a then T a else N c
  have M:I a=Ja (.list H):=(Y8 rfl).trans Z;have U:∀c,c≠a->I c=N c:=λc C=>Y7 C;have V:Ext N I:=λc o e=>(U c λw=>ns (na.symm.trans (w▸e))).trans e;have R:∀y,∀c∈(fset fp x ([]++[])) y,c≠a:=λy c C w=>L.out a (s a (.head _)) y (w▸C);have i2:Inv I P n (Δ.put x (.hole,Jc)) ρ T (fset fp x ([]++[])):=⟨j.env,j.sep,λy d e=>⟨(j.own y d e).1,λc C=>(U c (R y c C)).trans ((j.own y d e).2 c C)⟩,j.src,λc o e=>by
    by_cases C:c=a
    ·rw[C] at e ⊢;rw[M] at e;obtain rfl:=sj e;exact Z
    ·exact j.kept c o ((U c C).symm.trans e),λc C=>⟨r.dom c C,L.out c (s c (.tail _ C))⟩,λc e=>i.newS c (V.new e),j.pin⟩
  exact ym (λN f Δ ρ σ fp K g D i h q=>hb N f Δ ρ fp σ K _ g _ i (λy v e=>(Qh.mp (show(!tg.names.contains y&&S.noass y b)=Jc from t y v<|D▸e)).2) h q λo0 o0 o0 o0 o0 o0 o0 o0 w o0 o0 o0=>w)
   (λaa k=>k a _ M) ⟨λΔ ρ σ fp w Y=>q.next _ _ _ _ w (Y.less V i.newS),λd b Δ v ρ σ F w r=>q.ret _ _ _ _ _ _ _ w (r.less V)⟩ (λy W=>t.off (show(!tg.names.contains y&&S.noass y b)=Jd by simp[W])) l H n _ ρ T _ i2 r O.2 (λc C=>(U c λw=>O.1 (w▸C)).trans (L.own c (s c (.tail _ C)))) h⟩
theorem AE(R:SDOKs G cv cu b):SDOK G cv cu (.for_ tg k t b):=λN P Δ ρ fp σ Q X Q' X' i p h q x=>by
 rcases h.2 with w|w
 ·exact sp R h.1 i p w q x
 ·rcases t with o0|⟨e,o0|⟨o0,o0⟩⟩
  ·exact w.elim
  ·obtain⟨F,w⟩:=w;subst F;exact sX R h.1 i p w q
  ·exact w.elim
theorem yd(R:SDOKs G cv cu b)(U:SDOKs G.un cu cu h):SDOK G cv cu (.try1 b c h):=λN P Δ ρ fp σ Q X Q' X' i p w q O=>
 ⟨w.1,R N P Δ ρ fp σ Q _ Q' _ i (λx v e=>by exact ns ((p.off rfl).symm.trans e)) w.2 q λe l ws u j T f F w A r m=>by
  show if G.sub e c then _ else False;by_cases s:G.sub e c=Jc
  ·rw[Y8 s] at w ⊢;exact U N P _ _ f _ _ _ _ _ A (λx v e=>by exact ns<|(p.off rfl).symm.trans e) w q λo0 o0 o0 o0 o0 o0 o0 o0 w o0 o0 o0=>w
  ·rw[Y7 s] at w;exact w.elim⟩
theorem xZ{tst:DRho->(Bool->Prop)->Prop}{body:DRho->bR->Prop}{t:Rho->PH->(Bool->PH->Prop)->Prop}{body':Rho->PH->SPost->Prop}
  (W:∀Δ ρ σ fp (K:Bool->Prop) (K':Bool->PH->Prop),Inv N P [] Δ ρ σ fp->tst Δ K->(∀b σ',K b->Ext σ σ'->K' b σ')->t ρ σ K')
  (R:∀Δ ρ σ fp K K',Inv N P [] Δ ρ σ fp->body Δ K->QR N P K K'->body' ρ σ K')(q:QR N P Q Q'):∀ (k:Nat) (Δ:DRho) (ρ:Rho) (σ:PH) (fp:String->List Jg),Inv N P [] Δ ρ σ fp->dwhGo tst body Q k Δ->whGo t body' Q' k ρ σ
 |0=>λo0 o0 o0 o0 o0 h=>h.elim
 |k+1=>λΔ ρ σ fp i h=>W Δ ρ σ fp _ _ i h λb σ' w x=>by
  induction b with
  |false=>exact q.next _ _ _ _ w<|i.ext x
  |true=>exact R Δ ρ σ' fp _ _ (i.ext x) w<|q.fl λJ D O f p u=>xZ W R q k J D O f u p
theorem vK(R:SDOKs G cv cu b):SDOK G cv cu (.while_ t b):=λN P Δ ρ fp σ Q X Q' X' i p h q s=>by
 obtain⟨Y,k,h⟩:=(show G.calm=Jc/\∃k,dwhGo (λΔ K=>dwe G (aQ cv) t Δ (λv o0=>dBool K v) λc l=>X c l Δ) (λΔ K=>dwss G (aQ cv) (aQ cu) b Δ K X) Q k Δ from h)
 refine⟨Y,k,xZ (λΔ ρ σ fp K W i h n=> ?_) (λΔ ρ σ fp K W i h q=>R N P Δ ρ fp σ K X W X' i (p.imp λx e=>e) h q s) q k Δ ρ σ fp i h⟩;exact bo t Δ ρ fp σ _ _ _ _ i.env h (λd g v T F h r=>by
  obtain⟨c,rfl,h⟩:=eH h;rw[r.rd.1];exact n _ _ h r.ext) λo0 o0 o0 o0 o0 w x=>s.ext i w x
end
mutual
theorem An:∀ (s:S) (G:Gx) (cv cu:Cl),SDOK G cv cu s
 | .assign (.name _) _=>λo0 o0 o0=>zy
 | .assign (.tup _) _=>λo0 o0 o0=>Bq
 | .setIdx _ _ _=>λo0 o0 o0=>Bn
 | .expr e=>λo0 o0 o0=>zQ e
 | .ret _=>λo0 o0 o0=>Bo
 | .if_ _ b o=>λG cv cu=>BV (eZ b G cv cu)<|eZ o G cv cu
 | .for_ _ _ _ b=>λG cv cu=>AE<|eZ b G cv cu
 | .while_ _ b=>λG cv cu=>vK<|eZ b G cv cu
 | .raise _ _=>λo0 o0 o0=>vS
 | .try1 b _ h=>λG cv cu=>yd (eZ b G cv cu)<|eZ h G.un cu cu
theorem eZ:∀ (s:List S) (G:Gx) (cv cu:Cl),SDOKs G cv cu s
 |[]=>λo0 o0 o0=>yz
 |s::r=>λG cv cu=>xB (An s G cv cu)<|eZ r G cv cu
end
noncomputable def drho0(ps l:List String)(args:List (D×Bool)):DRho:=ps.zip (args.map Ja)++l.map λx=>(x,Jb)
noncomputable def fpz:List String->List (List Jg)->String->List Jg
 |x::s,F::i,y=>if y=x then F else fpz s i y
 |_,_,_=>[]
theorem oN(x:String):∀l:List String,DRho.get (l.map λx=>(x,Jb)) x=Jb
 |[]=>rfl
 |y::r=>by
  by_cases h:y=x
  ·simp[DRho.get_if,h]
  ·simp only[Qq,DRho.get_if,h,if_false];exact oN x r
structure Ent(σ:PH)(args:List (D×Bool))(Fs:List (List Jg))(Δ:DRho)(ρ:Rho)(fp:String->List Jg):Prop where
 env:EnvE σ Δ ρ fp
 at_:∀x d b,Δ.get x=Ja (d,b)->∃p∈args.zip Fs,p.1=(d,b)/\p.2=fp x
 any:∀x,∀a∈fp x,∃p∈args.zip Fs,a∈p.2
 sep:∀x d,Δ.get x=Ja (d,Jc)->∀y,y≠x->Disj (fp x) (fp y)
theorem ent(l:List String):∀ (ps:List String) (args:List (D×Bool)) (vs:List PV) (s:List (List Jg)),ps.length=args.length->ArgsR σ args vs s->Ent σ args s (drho0 ps l args) (ps.zip (vs.map Ja)++l.map λx=>(x,Jb)) (fpz ps s)
 |[]=>λargs vs s H i=>by
  cases i with
  |cons=>cases H
  |nil=>
   have S:∀x q,DRho.get (drho0 [] l []) x≠Ja q:=λx q e=>by
    rw[show DRho.get (drho0 [] l []) x=Jb from oN x l] at e;exact ns e
   refine⟨⟨λx d b e=>absurd e<|S x _,λx a T=>(bQ T),?_⟩,λx d b e=>absurd e<|S x _,λx a T=>(bQ T),λx d e=>absurd e<|S x _⟩;simp only[drho0,List.zip_nil_left,Ku,QE];rfl
 |x::ps=>λargs vs s H i=>by
  cases i with
  |nil=>cases H
  |@cons d b v F E vs s r nd j h=>
   have e:=ent l ps E vs s (Nat.succ.inj H) h;have g:DRho.get (drho0 (x::ps) l ((d,b)::E)) x=Ja (d,b):=by simp[drho0,DRho.get_if]
   have S:∀y,y≠x->DRho.get (drho0 (x::ps) l ((d,b)::E)) y=DRho.get (drho0 ps l E) y:=λy W=>by
    show DRho.get ((x,Ja (d,b))::drho0 ps l E) y=_;rw[DRho.get_if,Y7 λq=>W q.symm]
   have K:fpz (x::ps) (F::s) x=F:=Y8 rfl;have f:∀y,y≠x->fpz (x::ps) (F::s) y=fpz ps s y:=λy W=>Y7 W;refine⟨⟨λy X G q=> ?_,λy a T=> ?_,?_⟩,λy X G q=> ?_,λy a T=> ?_,λy X q z A a T R=> ?_⟩
   ·by_cases W:y=x
    ·subst W;rw[g] at q;cases q;rw[K];exact⟨v,by simp[Rho.get_c],r⟩
    ·rw[S y W] at q;rw[f y W];obtain⟨w,N,Y⟩:=e.env.at_ y X G q;refine⟨w,?_,Y⟩;show(if x=y then Ja v else _)=_;rw[Y7 λq=>W q.symm];exact N
   ·by_cases W:y=x
    ·subst W;rw[K] at T;exact r.dom a T
    ·rw[f y W] at T;exact e.env.dom y a T
   ·have:=e.env.keys;simp only[drho0,Qq,Wy,List.cons_append] at this ⊢;exact Ub _ this
   ·by_cases W:y=x
    ·subst W;rw[g] at q;cases q;exact⟨((d,b),F),.head _,rfl,K.symm⟩
    ·rw[S y W] at q;obtain⟨p,N,Y,J⟩:=e.at_ y X G q;exact⟨p,.tail _ N,Y,J.trans (f y W).symm⟩
   ·by_cases W:y=x
    ·subst W;rw[K] at T;exact⟨((d,b),F),.head _,T⟩
    ·rw[f y W] at T;obtain⟨p,N,Y⟩:=e.any y a T;exact⟨p,.tail _ N,Y⟩
   ·by_cases W:y=x
    ·subst W;rw[g] at q;cases q;rw[K] at T;rw[f z A] at R;obtain⟨p,N,Y⟩:=e.any z a R;exact j p N (.inl rfl) a T Y
    ·rw[S y W] at q;rw[f y W] at T;by_cases c:z=x
     ·subst c;rw[K] at R;obtain⟨p,N,Y,J⟩:=e.at_ y X Jc q;exact j p N (.inr<|by rw[Y]) a R<|by rw[J];exact T
     ·rw[f z c] at R;exact e.sep y X q z A a T R
theorem l3:∀ (args:List (D×Bool)) (s:List (List Jg)) (a:Jg),(∃p∈args.zip s,p.1.2=Jc/\a∈p.2)->a∈owned args s
 |[],_=>λa r=>by obtain⟨p,h,o0⟩:=r;cases h
 |_::_,[]=>λa r=>by obtain⟨p,h,o0⟩:=r;cases h
 |(d,b)::f,F::s=>λa r=>by
  obtain⟨p,h,N,Y⟩:=r;cases h with
  |head=>cases N;exact Qf _ Y
  |tail _ h=>exact Qe _<|l3 f s a ⟨p,h,N,Y⟩
theorem ArgsR.nd{args:List (D×Bool)}(h:ArgsR σ args vs F):∀p∈args.zip F,p.1.2=Jc->p.2.Nodup:=by
 induction h with
 |nil=>intro p K;cases K
 |cons r nd d h i=>
  intro p K e;cases K with
  |head=>exact nd e
  |tail _ K=>exact i p K e
noncomputable def keep(σ:PH)(O:List Jg):PH:=λa=>if a∈O then Jb else σ a
theorem je(h:keep σ O a=Jb):σ a=Jb\/a∈O:=by
 by_cases q:a∈O
 ·exact .inr q
 ·exact .inl<|(Y7 q).symm.trans h
theorem jq(x:Ext (keep σ O) σ'):i7 O σ σ':=λa o e h=>x a o<|(Y7 h).trans e
theorem pZ:∀ (args:List (D×Bool)) (s:List (List Jg)),∀a∈owned args s,a∈s.flatten:=λargs=>by
 induction args with
 |nil=>intro s a h;cases h
 |cons p r i=>
  intro s a h
  induction s using List.casesOn with
  |nil=>cases h
  |cons F s=>
   rcases Qn.mp (show a∈(if p.2 then F else [])++owned r s from h) with q|q
   ·induction K:p.2 with
    |true=>rw[K] at q;exact Qf _ q
    |false=>rw[K] at q;cases q
   ·exact Qe _<|i s a q
theorem inv0{ps:List String}(l:List String){args:List (D×Bool)}{vs:List PV}{F:List (List Jg)}(H:ps.length=args.length)(r:ArgsR σ args vs F)(i:String->Option PV)
  (K:∀x v,i x=Ja v->Rho.get (ps.zip (vs.map Ja)++l.map λx=>(x,Jb)) x=Ja v):
  Inv (keep σ<|owned args F) ⟨λa=>σ a=Jb\/a∈F.flatten,i⟩ [] (drho0 ps l args) (ps.zip (vs.map Ja)++l.map λx=>(x,Jb)) σ (fpz ps F):=by
 have e:=ent l ps args vs F H r;refine⟨e.env,e.sep,λx d q=> ?_,λx a T=> ?_,λa o h=> ?_,λa T=>(bQ T),λa h=>(je h).imp_right (pZ args F a),K⟩
 ·obtain⟨p,N,Y,J⟩:=e.at_ x d Jc q;rw[<-J];exact⟨r.nd p N<|by rw[Y],λa T=>Y8<|l3 _ _ a ⟨p,N,by rw[Y],T⟩⟩
 ·obtain⟨p,N,Y⟩:=e.any x a T;exact .inr<|List.mem_flatten.mpr ⟨p.2,(Kx N).2,Y⟩
 ·by_cases q:a∈owned args F
  ·rw[keep,Y8 q] at h;exact ns h
  ·rw[keep,Y7 q] at h;exact h
abbrev Runs(G:Gx)(J u c:Cl)(f:String)(ps l:List String)(b:List S):Prop:=
 ∀ (t:PH) (s:List PV) (Q:Post) (H:XPost),s.length=ps.length->wss G J u b (ps.zip (s.map Ja)++l.map λx=>(x,Jb)) t (λfl o0 X=>match fl with
   | .next=>Q .none X
   | .ret v=>Q v X) (λx o0 X=>H x X)->c f s t Q H
noncomputable def dend(Q:D->Bool->Prop):bR:=λfl o0=>match fl with
 | .next=>Q .none Jc
 | .ret d b=>Q d b
theorem zm{ps s:List String}{args:List (D×Bool)}{Q:D->Bool->Prop}(M:ps.length=args.length)
  (w:dwss G (aQ J) (aQ u) b (drho0 ps s args) (dend Q) λc l o0=>X c l)(n:Runs G J u W f ps s b):aQ W f args Q X:=λt O I P y U k N=>by
 have i:=inv0 s M U (λo0=>Jb) λo0 o0 q=>(ns q)
 refine n t O P y (U.lens.1.trans M.symm)<|eZ b G J u _ _ _ _ _ t _ _ _ _ i (λx v q=>(ns q)) w ⟨λK L T p h j=> ?_,λd b K v L T F h r=> ?_⟩ λc z ws K L T p F h j r m=>N c z ws T F h ⟨r,jq j.kept,m.nd,λa H=>je<|m.own a H⟩
 ·exact k _ _ _ _ [] h ⟨⟨rfl,rfl⟩,jq j.kept,λo0=>⟨.nil,λa h=>(bQ h)⟩,λa h=>(bQ h)⟩
 ·exact k _ _ _ _ F h ⟨r.rd,jq r.kept,λe=>⟨(r.own e).1,λa H=>je<|(r.own e).2 a H⟩,r.src⟩
def dendI(x:String)(Q:D->Prop):bR:=λfl L=>match fl with
 | .next=>dOE (λp=>p.2=Jc/\Q p.1) (L.get x)
 | .ret _ _=>False
theorem vd:∀ (ps:List String) (vs:List PV) (i:Nat),ps.Nodup->ps[i]? =Ja x->vs[i]? =Ja v->Rho.get (ps.zip (vs.map Ja)++r) x=Ja v
 |p::ps,[],i,_,_,h=>by exact ns h
 |p::ps,w::vs,0,_,N,Y=>by obtain rfl:=sj N;obtain rfl:=sj Y;simp[Rho.get_c]
 |p::ps,w::vs,i+1,o,N,Y=>by
  have n:p≠x:=by
   rintro rfl;exact(Qy.mp o).1 (Qz (show ps[i]? =Ja p from N))
  show(if p=x then Ja w else _)=_;rw[Y7 n];exact vd ps vs i (Qy.mp o).2 N Y
theorem wS{ps l:List String}{args:List (D×Bool)}{Q:D->Prop}(H:ps.length=args.length)(B:ps.Nodup)(hx:ps[i]? =Ja x)(T:S.noass x b=Jc)
  (w:dwss G (aQ J) (aQ c) b (drho0 ps l args) (dendI x Q) λo0 o0 o0=>False)(K:Runs G J c m f ps l b):(aQ m).io f i args Q:=λt s j M I v U Y k=>by
 have O:=inv0 l H U (λy=>if y=x then Ja v else Jb) λy u q=>by
  by_cases W:y=x
  ·obtain rfl:=sj<|(Y8 W).symm.trans q;subst W;exact vd ps s i B hx Y
  ·exact ns<|(Y7 W).symm.trans q
 refine K t s M I (U.lens.1.trans H.symm)<|eZ b G J c _ _ _ _ _ t _ _ _ _ O (λy u q=> ?_) w ⟨λL A X Z h n=> ?_,λd b L v A X F h r=>h.elim⟩ λo0 o0 o0 o0 o0 o0 o0 o0 h o0 o0 o0=>h.elim
 ·by_cases W:y=x
  ·subst W;exact T
  ·replace q:(if y=x then Ja v else Jb)=Ja u:=q;exact ns<|(Y7 W).symm.trans q
 ·obtain⟨⟨d,o⟩,e,g,z⟩:=eh (show dOE (λp=>p.2=Jc/\Q p.1) (L.get x) from h);cases g;obtain⟨u,R,r⟩:=n.env.at_ x d Jc e;have:=n.pin x v<|if_pos rfl;obtain rfl:=sj<|R.symm.trans this;exact k d X _ z ⟨r,(n.own x d e).1,λa T=>je<|(n.own x d e).2 a T,jq n.kept⟩
section
variable{G:Gx}{cl cu:DCl}{Δ:DRho}{X:DX}
section
variable{Q:DQ}
theorem dU:dwe G cl (.none) Δ Q X=(Q .none Jb):=rfl
theorem cD(b):dwe G cl (.bool b) Δ Q X=(Q (.bool b) Jb):=rfl
theorem aN(i):dwe G cl (.int i) Δ Q X=(Q (.int i) Jb):=rfl
theorem wN(s):dwe G cl (.str s) Δ Q X=(Q (.str s) Jb):=rfl
theorem aD(x):dwe G cl (.loc x) Δ Q X=(dOE (λp=>Q p.1 (tg0 p.1 (Ja [x]))) (Δ.get x)):=rfl
theorem cf(x):dwe G cl (.glob x) Δ Q X=(dglob Q (G.glob x)):=rfl
theorem bq(op a b):dwe G cl (.bin op a b) Δ Q X=(dwe G cl a Δ (λA t=>dwe G cl b Δ (λv l=>dbin op A v t l Q) X) X):=rfl
theorem bW(a):dwe G cl (.not_ a) Δ Q X=(dwe G cl a Δ (λv o0=>dBool (λb=>Q (.bool !b) Jb) v) X):=rfl
theorem c6(a b):dwe G cl (.and_ a b) Δ Q X=(dwe G cl a Δ (λv o0=>dBool (λc=>cond c (dwe G cl b Δ Q X) (Q (.bool Jd) Jb)) v) X):=rfl
theorem cq(a b):dwe G cl (.or_ a b) Δ Q X=(dwe G cl a Δ (λv o0=>dBool (λc=>cond c (Q (.bool Jc) Jb) (dwe G cl b Δ Q X)) v) X):=rfl
theorem dw(a):dwe G cl (.isNone a) Δ Q X=(dwe G cl a Δ (λv o0=>iW v=Jd/\Q (.bool v.isNone) Jb) X):=rfl
theorem cW(a):dwe G cl (.notNone a) Δ Q X=(dwe G cl a Δ (λv o0=>iW v=Jd/\Q (.bool !v.isNone) Jb) X):=rfl
theorem aX(op a b):dwe G cl (.cmp op a b) Δ Q X=(dwe G cl a Δ (λA o0=>dwe G cl b Δ (λv o0=>dcmp op A v λr=>Q (.bool r) Jb) X) X):=rfl
theorem jp(a o1 b o2 c):dwe G cl (.cmp2 a o1 b o2 c) Δ Q X=(dwe G cl a Δ (λA o0=>dwe G cl b Δ (λv o0=>dcmp o1 A v λr=>cond r (dwe G cl c Δ (λj o0=>dcmp o2 v j λr=>Q (.bool r) Jb) X) (Q (.bool Jd) Jb)) X) X):=rfl
theorem bS(l):dwe G cl (.tup l) Δ Q X=(dwes G cl l Δ (λvs=>dtup (fsts vs) (tjs vs) Q) X):=rfl
theorem bH(l):dwe G cl (.list l) Δ Q X=(dwes G cl l Δ (λvs=>dnew (fsts vs) (tjs vs) Q) X):=rfl
theorem aR(a i):dwe G cl (.sub a i) Δ Q X=(dwe G cl a Δ (λA t=>dwe G cl i Δ (λC o0=>dOD (λv=>Q v (tg0 v t)) (dsub A C)) X) X):=rfl
theorem aP(f args):dwe G cl (.call f args) Δ Q X=(G.fn f=Jc/\dwes G cl args Δ (λvs=>cl f (flags vs) (λd b=>Q d (tg0 d (cond b Jb (tj (Ja []) (tjs vs))))) X) X):=rfl
theorem bl(b args):dwe G cl (.bi b args) Δ Q X=(G.calm=Jc/\dwes G cl args Δ (λvs=>dbi b vs Q) X):=rfl
theorem c8(a ts):dwe G cl (.isi a ts) Δ Q X=(stat ts=Jc/\dwe G cl a Δ (λv o0=>oB (λb=>Q (.bool b) Jb) (disi G v ts)) X):=rfl
theorem ir:dwe G cl (.dict0) Δ Q X=(G.full=Jc/\Q (.dict [] []) Jb):=rfl
theorem wW(a k):dwe G cl (.get a k) Δ Q X=(dwe G cl a Δ (λv t=>dDct (λks l=>dwe G cl k Δ (λI o0=>oK (λk=>dget t Q (dlook ks l k)) (keyD I)) X) v) X):=rfl
theorem ei(x f):dwe G cl (.attr x f) Δ Q X=(dOE (λp=>dOD (λd=>Q d (tg0 d (Ja [x]))) (dfld G f p.1)) (Δ.get x)):=rfl
theorem bY(c f o args):dwe G cl (.mcall c f o args) Δ Q X=(G.fn f=Jc/\dwe G cl o Δ (λr t=>dIns c r/\dwes G cl args Δ (λvs=>cl f (flags ((r,t)::vs)) (λd b=>Q d (tg0 d (cond b Jb (tj (Ja []) (tjs ((r,t)::vs)))))) X) X) X):=rfl
end
section
variable{Q:List (D×Tag)->Prop}
theorem aE:dwes G cl [] Δ Q X=(Q []):=rfl
theorem aC(e es):dwes G cl (e::es) Δ Q X=(dwe G cl e Δ (λv t=>dwes G cl es Δ (λvs=>Q ((v,t)::vs)) X) X):=rfl
end
end
section
variable{G:Gx}{cl cu:DCl}{Δ:DRho}{Q:bR}{X:DSX}
end
section
variable{G:Gx}{cl cu:DCl}{Δ:DRho}{Q:bR}{X:DSX}{r:List S}
theorem bk(h:dwe G cl e Δ (λd t=>dwss G cl cu r ((Δ.frz t).put x (d,t.isNone)) Q X) λc l=>X c l Δ):dwss G cl cu (.assign (.name x) e::r) Δ Q X:=h
theorem dt(C:G.calm=Jc)(h:dwe G cl e Δ (λd t=>dOR (λP=>dwss G cl cu r P Q X) (dK (.tup xs) d t.isNone (Δ.frz t))) λc l=>X c l Δ):dwss G cl cu (.assign (.tup xs) e::r) Δ Q X:=⟨C,h⟩
theorem cp(h:dwe G cl t Δ (λv o0=>dBool (λc=>cond c (dwss G cl cu b Δ (donFl (λi=>dwss G cl cu r i Q X) Q) X) (dwss G cl cu o Δ (donFl (λi=>dwss G cl cu r i Q X) Q) X)) v) λc l=>X c l Δ):dwss G cl cu (.if_ t b o::r) Δ Q X:=h
theorem bM(h:dwe G cl e Δ (λd t=>Q (.ret d t.isNone) Δ) λc l=>X c l Δ):dwss G cl cu (.ret e::r) Δ Q X:= .inr h
theorem cL(h:dwm G cl Δ e Δ λd P=>Q (.ret d Jc) P):dwss G cl cu (.ret e::r) Δ Q X:= .inl h
theorem sM(h:dexpr G cl e Δ (λP=>dwss G cl cu r P Q X) X):dwss G cl cu (.expr e::r) Δ Q X:=h
theorem oq(h:dwm G cl Δ e Δ (λd u=>dpath G cl o u (λx ps n=>dwe G cl i u (λj o0=>dsetI n j d λdn'=>dput u x ps dn' λP=>dwss G cl cu r P Q X) λo0 o0=>False) λo0 o0=>False)):dwss G cl cu (.setIdx o i e::r) Δ Q X:=h
theorem iu(C:G.calm=Jc)(k:Nat)(h:dwhGo (λΔ K=>dwe G cl t Δ (λv o0=>dBool K v) λc l=>X c l Δ) (λΔ K=>dwss G cl cu b Δ K X) (donFl (λi=>dwss G cl cu r i Q X) Q) k Δ):dwss G cl cu (.while_ t b::r) Δ Q X:=⟨C,k,h⟩
theorem dG(C:G.calm=Jc)(h:dwes G cl t Δ (λvs=>dsrc k (fsts vs) λxs=>gk tg (λΔ K=>dwss G cl cu b Δ K λo0 o0 o0=>False) (donFl (λi=>dwss G cl cu r i Q X) Q) xs (Δ.frz (tjs vs))) λc l=>X c l Δ):
  dwss G cl cu (.for_ tg k t b::r) Δ Q X:=⟨C,.inl h⟩
theorem wv(c:G.calm=Jc)(h:dpath G cl e Δ (λx o0 d=>dLst (λl=>hA tg (λΔ K=>dwss G cl cu b Δ K λo0 o0 o0=>False) (donFl (λi=>dwss G cl cu r i Q X) Q) l (Δ.put x (.hole,Jc))) d) λo0 o0=>False):
  dwss G cl cu (.for_ tg .val [e] b::r) Δ Q X:=⟨c,.inr ⟨rfl,h⟩⟩
theorem f7{K:DRho->Prop}(h:K Δ):donFl K Q .next Δ:=h
end
theorem jK{L:Type}{el:DRho->DQ->Prop}{K:List D->Tag->Prop}(g f:L->D)(h:L->Prop)(U:∀a,h a->∀K:DQ,K (f a) Jb->dOR (λP=>el P K) (bp tg (g a) Δ)):
  ∀ (l:List L) (c:List D),(∀a∈l,h a)->K (c++l.map f) Jb->dcomp tg Δ t (λo0 K=>K Jc) el (l.map g) c Jb K
 |[]=>λc o0 k=>by rw[Wj,QH] at k;exact k
 |a::l=>λc T k=>by
  obtain⟨P,e,w⟩:=fV (U a (T a (.head _)) (λd u=>dcomp tg Δ t (λo0 K=>K Jc) el (l.map g) (c++[d]) (tj Jb (tout tg.names t u)) K)
   (jK g f h U l (c++[f a]) (λb R=>T b (.tail _ R)) (by rw[Kn];exact k)))
  show dOR _ (bp tg (g a) Δ);rw[e];exact w
theorem e8{L:Type}{tst:DRho->(Bool->Prop)->Prop}{el:DRho->DQ->Prop}{K:List D->Tag->Prop}(g f:L->D)(p:L->Bool)(h:L->Prop)
  (U:∀a,h a->dOR (λP=>(∀T:Bool->Prop,T (p a)->tst P T)/\(p a=Jc->∀K:DQ,K (f a) Jb->el P K)) (bp tg (g a) Δ)):
  ∀ (l:List L) (c:List D),(∀a∈l,h a)->K (c++(l.filter p).map f) Jb->dcomp tg Δ s tst el (l.map g) c Jb K
 |[]=>λc o0 k=>by rw[List.filter_nil,Wj,QH] at k;exact k
 |a::l=>λc H k=>by
  obtain⟨P,e,w,j⟩:=fV<|U a (H a<|.head _);show dOR _ (bp tg (g a) Δ);rw[e];refine w _ ?_
  induction t:p a with
  |true=>
   rw[Ko t] at k;exact j t _<|e8 g f p h U l (c++[f a]) (λb R=>H b<|.tail _ R) (by rw[Kn];exact k)
  |false=>
   rw[Kq (by rw[t];exact QF)] at k;exact e8 g f p h U l c (λb R=>H b<|.tail _ R) k
theorem oj{L:Type}{body:DRho->bR->Prop}(g:L->D)(I:Nat->DRho->Prop)(R:Nat->D->Bool->Prop):∀ (l:List L) (i:Nat) (Δ:DRho),I i Δ->
  (∀ (j:Nat) (a:L) (Δ:DRho),l[j]? =Ja a->I (i+j) Δ->∀K:bR,(∀P,I (i+j+1) P->K .next P)->(∀d b P,R (i+j) d b->K (.ret d b) P)->dOR (λP=>body P K) (dK tg (g a) (g a).atom Δ))->
  (∀P,I (i+l.length) P->Q .next P)->(∀j d b P,j<l.length->R (i+j) d b->Q (.ret d b) P)->gk tg body Q (l.map g) Δ
 |[]=>λi Δ U o0 q o0=>q Δ U
 |a::l=>λi Δ U h q Z=>by
  obtain⟨P,e,w⟩:=fV (h 0 a Δ rfl U (donFl (λJ=>gk tg body Q (l.map g) J) Q) (λJ Y=>oj g I R l (i+1) J Y (λj b Δ H p K k C=>by
    rw[QL] at p;exact h (j+1) b Δ H p K (λP z=>k P (by rw[QL i 1 j];exact z)) λd b P z=>C d b P (by rw[QL i 1 j];exact z))
   (λP z=>q P (by rw[KW,<-Ym,<-QL];exact z)) λj d b P H z=>Z (j+1) d b P (Yn H) (by rw[<-Ym,<-QL];exact z)) λd b P z=>Z 0 d b P (Nat.succ_pos _) z)
  show dOR _ (dK tg (g a) (g a).atom Δ);rw[e];exact w
theorem cK{L:Type}{body:DRho->bR->Prop}(g:L->D)(I:Nat->DRho->Prop)(l:List L)(Δ:DRho)(i:I 0 Δ)
  (h:∀ (j:Nat) (a:L) (Δ:DRho),l[j]? =Ja a->I j Δ->∀K:bR,(∀P,I (j+1) P->K .next P)->dOR (λP=>body P K) (dK tg (g a) (g a).atom Δ))(q:∀P,I l.length P->Q .next P):gk tg body Q (l.map g) Δ:=
 oj g I (λo0 o0 o0=>False) l 0 Δ i (λj a Δ e p K k o0=>by rw[Wx] at p k;exact h j a Δ e p K k) (λP z=>by rw[Wx] at z;exact q P z) λo0 o0 o0 o0 o0 z=>z.elim
section
variable{Q:DQ}{K:Bool->Prop}{ta tb:Tag}
theorem dy(x y:Int):dbin .add (.int x) (.int y) ta tb Q=Q (.int (x+y)) Jb:=rfl
theorem gX(x y:Int):dbin .sub (.int x) (.int y) ta tb Q=Q (.int (x-y)) Jb:=rfl
theorem k7(x y:Int):dbin .mul (.int x) (.int y) ta tb Q=((x.natAbs<2^64\/y.natAbs<2^64)/\Q (.int (x*y)) Jb):=rfl
theorem eR(x y:Int):dbin .fdiv (.int x) (.int y) ta tb Q=(y≠0/\y.natAbs<1073741824/\Q (.int (x.fdiv y)) Jb):=rfl
theorem cB(x y:Int):dbin .mod (.int x) (.int y) ta tb Q=(y≠0/\Q (.int (x.fmod y)) Jb):=rfl
theorem pE(x y:Int):dbin (.pow ()) (.int x) (.int y) ta tb Q=(0<=y/\y<=1000/\x.natAbs<2^64/\Q (.int (x^y.toNat)) Jb):=rfl
theorem ik(x y:List D):dbin .add (.list x) (.list y) ta tb Q=dnew (x++y) (tgl (x++y) (tj ta tb)) Q:=rfl
theorem qS(x y:Int):dcmp .lt (.int x) (.int y) K=K (decide (x<y)):=rfl
theorem lf(x y:Int):dcmp .le (.int x) (.int y) K=K (decide (x<=y)):=rfl
theorem jU(x y:Int):dcmp (.gt ()) (.int x) (.int y) K=K (decide (x>y)):=rfl
theorem oL(x y:Int):dcmp .ge (.int x) (.int y) K=K (decide (x>=y)):=rfl
theorem cj(x y:Int):D.eqv (.int x) (.int y)=decide (x=y):=rfl
theorem tD(x y:Bool):D.eqv (.bool x) (.bool y)=(x==y):=by rcases x with⟨⟩<;>rcases y with⟨⟩<;>rfl
theorem kM{n:Nat}{k:Int}(h:0<=k)(N:k<n):place n k=Ja k.toNat:=by unfold place;rw[Y8 h,Y8 N]
theorem eI(h:i<n):place n (i:Int)=Ja i:=by rw[kM (by exact QU _) (by exact Kf.mpr h)];rfl
end
theorem eX{a b:Int}(h:0<b):0<=a.fmod b/\a.fmod b<b:=⟨Int.fmod_nonneg_of_pos a h,Int.fmod_lt_of_pos a h⟩
theorem cE{p:Prop}[Decidable p]{a b:Prop}(N:p->a)(Y:¬p->b):cond (decide p) a b:=by
 by_cases h:p
 ·rw[Y4 h];exact N h
 ·rw[Y5 h];exact Y h
theorem aZ(p:String)(ps l:List String)(a:D×Bool)(as:List (D×Bool)):drho0 (p::ps) l (a::as)=Nb p a.2 a.1 (drho0 ps l as):=rfl
theorem ch(p:String)(l:List String):drho0 [] (p::l) []=No p Jb (drho0 [] l []):=rfl
theorem bt:drho0 [] [] []=[]:=rfl
theorem cA(x:String)(Δ:DRho):hV (.name x) Δ=No ".0" Jb (No x Jb Δ):=rfl
theorem BH(x y:String)(Δ:DRho):hV (.tup [x,y]) Δ=No ".0" Jb (No x Jb (No y Jb Δ)):=rfl
theorem aG{L u:Type}(f:L->u)(a:L)(l:List L):(a::l).map f=f a::l.map f:=rfl
theorem aI{L u:Type}(f:L->u):([]:List L).map f=[]:=rfl
theorem aV{L:Type}(a:L)(l:List L):(a::l).length=l.length+1:=rfl
theorem aW{L:Type}:([]:List L).length=0:=rfl
theorem dl{L:Type}(a:L)(l m:List L):(a::l)++m=a::(l++m):=rfl
theorem bI{L:Type}(m:List L):[]++m=m:=rfl
theorem cP{L u:Type}(f:L->u):(Jb:Option L).map f=Jb:=rfl
theorem aS{L:Type}(a:L):(Ja a).isNone=Jd:=rfl
theorem aH{L:Type}:(Jb:Option L).isNone=Jc:=rfl
theorem aA{L:Sort u}(a b:L):cond Jc a b=a:=rfl
theorem aB{L:Sort u}(a b:L):cond Jd a b=b:=rfl
theorem cy:(!Jc)=Jd:=rfl
theorem lr:(!Jd)=Jc:=rfl
theorem cJ(b:Bool):(Jc&&b)=b:=rfl
theorem bK(b:Bool):(Jd&&b)=Jd:=rfl
theorem fK(b:Bool):(Jc||b)=Jc:=rfl
theorem fF(b:Bool):(Jd||b)=b:=rfl
theorem xl{l:List Int}{i:Int}(h:0<=i)(N:i<l.length):dsub (.scr l) (.int i)=Ja (.int (l[i.toNat]?.getD 0)):=by
 show((place l.length i).bind λj=>l[j]?).map D.int=_;rw[kM h N];show(l[i.toNat]?).map D.int=_;rw[Qg (show i.toNat<l.length by exact(KV h).mpr N)];rfl
theorem gr{l:List Int}{i:Int}(h:0<=i)(N:i<l.length):dsub (.list (l.map .int)) (.int i)=Ja (.int (l[i.toNat]?.getD 0)):=by
 show((place (l.map D.int).length i).bind λj=>(l.map D.int)[j]?)=_;rw[Qd,kM h N];show(l.map D.int)[i.toNat]? =_;rw[Qu,Qg (show i.toNat<l.length by exact(KV h).mpr N)];rfl
theorem iT{l:List D}{j:Nat}{v:D}(h:l[j]? =Ja v):dsub (.list l) (.int j)=Ja v:=by
 have H:j<l.length:=by
  rcases Nat.lt_or_ge j l.length with q|q
  ·exact q
  ·exact ns<|(KZ q).symm.trans h
 show((place l.length (j:Int)).bind λj=>l[j]?)=_;rw[eI H];exact h
section
variable{G:Gx}
theorem xW(i:Int):disi G (.int i) ["int"]=Ja Jc:=rfl
theorem xY(i:Int):disi G (.int i) ["bool"]=Ja Jd:=rfl
theorem Bg(i:Bool):disi G (.bool i) ["bool"]=Ja Jc:=rfl
theorem lh(l:List D):disi G (.list l) ["list"]=Ja Jc:=rfl
theorem lm(l:List D):disi G (.tup l) ["tuple"]=Ja Jc:=rfl
theorem AA(i:Bool):disi G (.bool i) ["int"]=Ja Jc:=rfl
end
theorem j7{p:Prop}[Decidable p]{a b:Prop}(N:p->b)(Y:¬p->a):cond (!decide p) a b:=by
 by_cases h:p
 ·rw[Y4 h];exact N h
 ·rw[Y5 h];exact Y h
theorem vX{a b:Prop}(N:c=Jc->a)(h:c=Jd->b):cond c a b:=by
 induction c with
 |true=>exact N rfl
 |false=>exact h rfl
theorem oX{a b:Prop}(N:c=Jc->b)(h:c=Jd->a):cond (!c) a b:=by
 induction c with
 |true=>exact N rfl
 |false=>exact h rfl
theorem ny{G:Gx}{args:List E}(h:G.full=Jc/\G.calm=Jc/\(G.mks.contains c=Jc\/(G.inis.contains c=Jc/\args.length=(G.flds c).length)))
  (w:dwes G cl args Δ (λvs=>X c (((fsts vs).take (G.flds c).length).map λo0=> .hole) Δ) λc l=>X c l Δ):dwss G cl cu (.raise c args::r) Δ Q X:=⟨h,w⟩
section
variable{Q:DQ}{t ta tb:Tag}{Δ:DRho}
theorem aK(K:D×Bool->Prop)(v:D×Bool):dOE K (Ja v)=K v:=rfl
theorem cV(K:D->Prop)(v:D):dOD K (Ja v)=K v:=rfl
theorem bJ(K:DRho->Prop)(v:DRho):dOR K (Ja v)=K v:=rfl
theorem cN(K:Nat->Prop)(v:Nat):oNat K (Ja v)=K v:=rfl
theorem AI(K:List Int->Prop)(v:List Int):oIs K (Ja v)=K v:=rfl
theorem h9(K:Bool->Prop)(v:Bool):oB K (Ja v)=K v:=rfl
theorem sS(K:Int->Prop)(x:Int):dInt K (.int x)=K x:=rfl
theorem bw(K:Bool->Prop)(x:Bool):dBool K (.bool x)=K x:=rfl
theorem dW(K:List D->Prop)(x:List D):dLst K (.list x)=K x:=rfl
theorem cw(K:List D->Prop)(x:List D):dSeq K (.list x)=K x:=rfl
theorem zM(K:List D->Prop)(x:List D):dSeq K (.tup x)=K x:=rfl
theorem ca(K:D->Tag->Prop)(d:D)(t:Tag):d1 K [(d,t)]=K d t:=rfl
theorem ce(args:List (D×Tag)):dbi .len args Q=d1 (λd o0=>oNat (λn=>Q (.int n) Jb) (dlen d)) args:=rfl
theorem hJ(args:List (D×Tag)):dbi .all args Q=d1 (λd o0=>dLst (λl=>oBs (λbs=>Q (.bool (bs.all id)) Jb) (gC l)) d) args:=rfl
theorem zz(args:List (D×Tag)):dbi .any args Q=d1 (λd o0=>dLst (λl=>oBs (λbs=>Q (.bool (bs.any id)) Jb) (gC l)) d) args:=rfl
theorem yl(args:List (D×Tag)):dbi .abs args Q=d1 (λd o0=>dInt (λx=>Q (.int (if x<0 then-x else x)) Jb) d) args:=rfl
theorem gz(args:List (D×Tag)):dbi .sum args Q=d1 (λd o0=>dLst (λl=>oIs (λis=>Q (.int is.sum) Jb) (dInts l)) d) args:=rfl
theorem yy(args:List (D×Tag)):dbi .int args Q=d1 (λd o0=>dBool (λx=>Q (.int (if x then 1 else 0)) Jb) d) args:=rfl
theorem ey(args:List (D×Tag)):dbi .list args Q=d1 (λd t=>dList Q t d) args:=rfl
theorem pY(l:List D):dList Q t (.list l)=Q (.list l) (tgl l t):=rfl
theorem Bz(ks:List (List KA))(l:List D):dList Q t (.dict ks l)=((ks.length<=lim/\∀k∈ks,k.length<=lim)/\Q (.list (ks.map keyDd)) Jb):=rfl
theorem sh(args:List (D×Tag)):dbi .sorted args Q=d1 (λd o0=>dLst (λl=>oIs (λis=>is.length<64/\∀j:List Int,j.Perm is->j.Pairwise (· <= ·)->Q (.list (j.map .int)) Jb) (dInts l)) d) args:=rfl
theorem np(a:D)(l:List D)(K:Bool->Prop):din a (.list l) K=((a.okd 40=Jc/\D.okds 40 l=Jc)/\K (l.any λd=>D.eqv d a)):=rfl
theorem ti(a:D)(ks:List (List KA))(l:List D)(K:Bool->Prop):din a (.dict ks l) K=oK (λk=>K (kidx ks k).isSome) (keyD a):=rfl
theorem xo(K:List (List KA)->List D->Prop)(ks:List (List KA))(l:List D):dDct K (.dict ks l)=K ks l:=rfl
theorem oa(K:List KA->Prop)(k:List KA):oK K (Ja k)=K k:=rfl
theorem dA(ks:List (List KA))(l:List D):tg0 (.dict ks l) t=t:=rfl
theorem d4(ks:List (List KA))(l:List D):D.atom (.dict ks l)=Jd:=rfl
theorem BN(d:D):dget t Q (Ja d)=Q d (tg0 d t):=rfl
theorem vM(l:List D)(i d:D)(K:D->Prop):dsetI (.list l) i d K=dInt (λk=>oNat (λj=>K (.list (l.set j d))) (place l.length k)) i:=rfl
theorem BL(ks:List (List KA))(l:List D)(i d:D)(K:D->Prop):dsetI (.dict ks l) i d K=(l.length<lim/\oK (λk=>K (dkset ks l k d)) (keyD i)):=rfl
theorem BG:dget t Q Jb=Q (.list []) Jb:=rfl
theorem qU(args:List (D×Tag)):dbi (.dict ()) args Q=d1 (λd o0=>dDct (λks l=>(ks≠ []/\(∀k∈ks,dQ k=Jc)/\D.atoms l=Jc)/\Q (.dict ks l) Jb) d) args:=rfl
theorem gc(c:String)(l:List D):tg0 (.inst c l) t=tgl l t:=rfl
theorem nh(c:String)(l:List D):D.atom (.inst c l)=D.atoms l:=rfl
theorem eB(c K:String)(l:List D):dIns c (.inst K l)=(K=c):=rfl
theorem nC(args:List (D×Tag)):dbi .min args Q=dMin Q args:=rfl
theorem g8(a b:D)(K:Bool->Prop):dcmp .nin a b K=din a b λr=>K (!r):=rfl
theorem cI(l:List D):dlen (.list l)=Ja l.length:=rfl
theorem lT(l:List D):dlen (.tup l)=Ja l.length:=rfl
theorem xO(l:List Int):dlen (.scr l)=Ja l.length:=rfl
theorem ej(a b:D)(K:Bool->Prop):dcmp .eq a b K=deq a b K:=rfl
theorem eD(a b:D)(K:Bool->Prop):dcmp .ne a b K=deq a b λr=>K (!r):=rfl
theorem o8(a b:D)(K:Bool->Prop):dcmp .in_ a b K=din a b K:=rfl
theorem A0(i:Int):dglob Q (Ja (.int i))=Q (.int i) Jb:=rfl
theorem ck(v:D)(K:List D->Prop):dsrc .val [v] K=dSeq K v:=rfl
theorem Bk(a b:List D)(K:List D->Prop):dsrc .zip [.list a,.list b] K=K ((a.zip b).map λp=> .tup [p.1,p.2]):=rfl
theorem iZ(n:Int)(K:List D->Prop):dsrc .range [.int n] K=((-1000000<n/\n<=1000000)/\K ((Qc n.toNat).map λ(i:Nat)=> .int i)):=rfl
theorem bA:Δ.frz Jb=Δ:=rfl
theorem fM(y:String)(b:Bool)(v:D)(r:DRho)(xs:List String):DRho.frz (Nb y b v r) (Ja xs)=No y (cond (hasS xs y) (Ja (v,v.atom&&b)) (Ja (v,b))) (DRho.frz r (Ja xs)):=rfl
theorem gn(y:String)(o:Option (D×Bool))(r:DRho)(xs:List String):DRho.frz (No y o r) (Ja xs)=No y (cond (hasS xs y) (o.map λq=>(q.1,q.1.atom&&q.2)) o) (DRho.frz r (Ja xs)):=rfl
theorem fJ(y:String)(b:Bool)(v:D)(r:DRho):No y (Ja (v,b)) r=Nb y b v r:=rfl
theorem fN(xs:List String):DRho.frz [] (Ja xs)=[]:=rfl
theorem bv(i:Int):tg0 (.int i) t=Jb:=rfl
theorem BF(i:Bool):tg0 (.bool i) t=Jb:=rfl
theorem Ax:tg0 .none t=Jb:=rfl
theorem gJ(s:List Int):tg0 (.scr s) t=Jb:=rfl
theorem bj(l:List D):tg0 (.list l) t=t:=rfl
theorem b6(l:List D):tg0 (.tup l) t=tgl l t:=rfl
theorem br:tj Jb t=t:=rfl
theorem bB(xs:List String):tj (Ja xs) Jb=Ja xs:=rfl
theorem cb(xs ys:List String):tj (Ja xs) (Ja ys)=Ja (xs++ys):=rfl
theorem aT:tjs []=Jb:=rfl
theorem aU(p:D×Tag)(r:List (D×Tag)):tjs (p::r)=tj p.2 (tjs r):=rfl
theorem f6(x y:String)(u v:D)(b:Bool):dK (.tup [x,y]) (.tup [u,v]) b Δ=Ja ((Δ.put x (u,b)).put y (v,b)):=rfl
theorem vV(x y z:String)(u v w:D)(b:Bool):dK (.tup [x,y,z]) (.tup [u,v,w]) b Δ=Ja (((Δ.put x (u,b)).put y (v,b)).put z (w,b)):=rfl
theorem xc(v:D):dMin Q [(v,t)]=dLst (λl=>oIs (λis=>is≠ []/\Q (.int (lmin is)) Jb) (dInts l)) v:=rfl
theorem b5(x:String)(v:D)(b:Bool):dK (.name x) v b Δ=Ja (Δ.put x (v,b)):=rfl
theorem fG(x:String):hasS [] x=Jd:=rfl
theorem fH(y:String)(r:List String)(x:String):hasS (y::r) x=(y==x||hasS r x):=rfl
theorem bL(l:List D):D.atom (.list l)=Jd:=rfl
theorem cM(i:Int):D.atom (.int i)=Jc:=rfl
theorem BQ(i:Bool):D.atom (.bool i)=Jc:=rfl
theorem BY:D.atom .none=Jc:=rfl
theorem gO(l:List D):D.atom (.tup l)=D.atoms l:=rfl
theorem bD:D.atoms []=Jc:=rfl
theorem bC(d:D)(l:List D):D.atoms (d::l)=(d.atom&&D.atoms l):=rfl
theorem get_c(y:String)(v:Option (D×Bool))(r:DRho)(x:String):DRho.get ((y,v)::r) x=cond (y==x) v (DRho.get r x):=rfl
theorem put_c(y:String)(o:Option (D×Bool))(r:DRho)(x:String)(v:D×Bool):DRho.put ((y,o)::r) x v=cond (y==x) ((y,Ja v)::r) ((y,o)::DRho.put r x v):=rfl
theorem aF(y:String)(b:Bool)(v:D)(r:DRho)(x:String):DRho.get (Nb y b v r) x=cond (y==x) (Ja (v,b)) (DRho.get r x):=rfl
theorem aJ(y:String)(o:Option (D×Bool))(r:DRho)(x:String):DRho.get (No y o r) x=cond (y==x) o (DRho.get r x):=rfl
theorem aL(y:String)(b:Bool)(v:D)(r:DRho)(x:String)(p:D×Bool):DRho.put (Nb y b v r) x p=cond (y==x) (Nb y p.2 p.1 r) (Nb y b v (DRho.put r x p)):=rfl
theorem aM(y:String)(o:Option (D×Bool))(r:DRho)(x:String)(p:D×Bool):DRho.put (No y o r) x p=cond (y==x) (Nb y p.2 p.1 r) (No y o (DRho.put r x p)):=rfl
end
def elD(G:Gx)(cl:DCl)(e:E):DRho->DQ->Prop:=λP K=>dwe G cl e P K λo0 o0=>False
def tstD(G:Gx)(cl:DCl)(e:E):DRho->(Bool->Prop)->Prop:=λP K=>dwe G cl e P (λv o0=>dBool K v) λo0 o0=>False
section
variable{G:Gx}{cl cu:DCl}{Δ:DRho}{Q:DQ}{X:DX}
theorem bV(c:G.calm=Jc)(h:dwes G cl i Δ (λvs=>dsrc k (fsts vs) λxs=>dcomp tg Δ (tjs vs) (λo0 K=>K Jc) (elD G cl e) xs [] Jb λa t=>Q (.list a) t) X):dwe G cl (.comp e tg k i) Δ Q X:=⟨c,h⟩
theorem cF(C:G.calm=Jc)(h:dwes G cl i Δ (λvs=>dsrc k (fsts vs) λxs=>dcomp tg Δ (tjs vs) (tstD G cl c) (elD G cl e) xs [] Jb λa t=>Q (.list a) t) X):dwe G cl (.compIf e tg k i c) Δ Q X:=⟨C,h⟩
variable{QM:D->DRho->Prop}{Δ0:DRho}
theorem oF(o a b):dwm G cl Δ0 (.bin o a b) Δ QM=dwe G cl (.bin o a b) Δ0 (λd t=>t=Jb/\QM d Δ) λo0 o0=>False:=rfl
theorem lg(a b c d):dwm G cl Δ0 (.comp a b c d) Δ QM=dwe G cl (.comp a b c d) Δ0 (λd t=>t=Jb/\QM d Δ) λo0 o0=>False:=rfl
theorem dg(l):dwm G cl Δ0 (.tup l) Δ QM=dwms G cl Δ0 l Δ (λds P=>ds.length<=lim/\QM (.tup ds) P):=rfl
theorem b9(x):dwm G cl Δ0 (.loc x) Δ QM=dOE (λp=>cond p.1.atom (QM p.1 Δ) (cond p.2 (QM p.1 (Δ.put x (.hole,Jc))) (QM .hole Δ))) (Δ.get x):=rfl
theorem uA(h:dwe G cl (.call f l) Δ0 (λd t=>t=Jb/\QM d Δ) λo0 o0=>False):dwm G cl Δ0 (.call f l) Δ QM:=h
theorem df{Q:List D->DRho->Prop}:dwms G cl Δ0 [] Δ Q=Q [] Δ:=rfl
theorem cH{Q:List D->DRho->Prop}(e es):dwms G cl Δ0 (e::es) Δ Q=dwm G cl Δ0 e Δ (λd i=>dwms G cl Δ0 es i (λds J=>Q (d::ds) J)):=rfl
theorem iM{Q:bR}{X:DSX}{r:List S}{x:String}{e:E}(h:dOE (λp=>dLst (λo0=>True) p.1) (Δ.get x)/\dwm G cl Δ e Δ (λd i=>dOE (λp=>p.2=Jc/\dLst (λl=>l.length<lim/\dwss G cl cu r (i.put x (.list (l++[d]),Jc)) Q X) p.1) (i.get x))):
  dwss G cl cu (.expr (.meth (.loc x) .append [e])::r) Δ Q X:=h
end
theorem iP(n:Nat):((n:Int)).toNat=n:=rfl
theorem eJ{body:DRho->bR->Prop}(I:Nat->DRho->Prop)(U:I 0 Δ)(h:∀ (j:Nat) (Δ:DRho),j<n->I j Δ->∀K:bR,(∀P,I (j+1) P->K .next P)->dOR (λP=>body P K) (dK tg (.int j) Jc Δ))
  (q:∀P,I n P->Q .next P):gk tg body Q ((Qc n).map λ(i:Nat)=> .int i) Δ:=
 cK (λ(i:Nat)=> .int i) I _ _ U (λj a Δ e H K k=>by
  obtain⟨N,p⟩:=QC.mp e;rw[QB] at N;rw[Wc] at p;subst p;exact h j Δ N H K k) (by rw[QB];exact q)
theorem ec{el:DRho->DQ->Prop}{K:List D->Tag->Prop}(f:Nat->D)(h:∀i,i<n->∀K:DQ,K (f i) Jb->dOR (λP=>el P K) (bp tg (.int i) Δ))(k:K ((Qc n).map f) Jb):
  dcomp tg Δ s (λo0 K=>K Jc) el ((Qc n).map λ(i:Nat)=> .int i) [] Jb K:=
 jK (λ(i:Nat)=> .int i) f (· <n) h _ [] (λa T=>Qi.mp T) k
theorem bE{L:Type}{l:List L}{el:DRho->DQ->Prop}{K:List D->Tag->Prop}(g f:L->D)(h:∀a,a∈l->∀K:DQ,K (f a) Jb->dOR (λP=>el P K) (bp tg (g a) Δ))(k:K (l.map f) Jb):
  dcomp tg Δ s (λo0 K=>K Jc) el (l.map g) [] Jb K:=jK g f (· ∈l) h l [] (λa T=>T) k
theorem ju{L u:Type}(f:L->u)(l:List L)(a:L):l.map f++[f a]=(l++[a]).map f:=by rw[QD];rfl
theorem gP{L:Type}(f:Nat->L)(n:Nat):(Qc n).map f++[f n]=(Qc (n+1)).map f:=by rw[List.range_succ,QD];rfl
theorem fC(a b c:D):dsub (.tup [a,b,c]) (.int 0)=Ja a:=rfl
theorem li(a b c:D):dsub (.tup [a,b,c]) (.int 1)=Ja b:=rfl
theorem kA(a b c:D):dsub (.tup [a,b,c]) (.int 2)=Ja c:=rfl
theorem eE(a b:D):dsub (.tup [a,b]) (.int 0)=Ja a:=rfl
theorem gK(a b:D):dsub (.tup [a,b]) (.int 1)=Ja b:=rfl
theorem aY{K:D->Prop}(e:t=Ja v)(k:K v):dOD K t:=by subst e;exact k
theorem g7{K:List Int->Prop}(e:t=Ja v)(k:K v):oIs K t:=by subst e;exact k
theorem jt{K:List Bool->Prop}(e:t=Ja v)(k:K v):oBs K t:=by subst e;exact k
noncomputable def dP(p:Nat×Nat):D:= .tup [.int p.1,.int p.2]
noncomputable abbrev dI(l:List Int):D:= .list (l.map .int)
abbrev dT(t:List (List Int)):D:= .list (t.map dI)
noncomputable def dO:Option Int->D
 |some i=> .int i
 |none=> .none
abbrev dR(r:List (Option Int)):D:= .list (r.map dO)
abbrev dC(c:List (List (Option Int))):D:= .list (c.map dR)
theorem wx(l:List Int)(i:Int):dI (l++[i])= .list (l.map .int++[.int i]):=by
 show D.list (Kt _<|_++_)=_;rw[QD];rfl
theorem fB(l:List Int):dInts (l.map .int)=Ja l:=by
 induction l with
 |nil=>rfl
 |cons a l i=>show(dInts<|l.map .int).map (a:: ·)=_;rw[i];rfl
theorem fx{L:Type}(g:L->Int)(l:List L):dInts (l.map λa=> .int (g a))=Ja (l.map g):=by
 rw[show(l.map λa=>D.int<|g a)=(l.map g).map .int from(QE).symm];exact fB _
theorem c4{L:Type}(g:L->Bool)(l:List L):gC (l.map λa=> .bool (g a))=Ja (l.map g):=by
 induction l with
 |nil=>rfl
 |cons a l i=>show(gC (l.map λa=> .bool (g a))).map (g a:: ·)=_;rw[i];rfl
theorem iX{L:Type}(g:L->Bool)(l:List L):(l.map g).all id=l.all g:=by rw[List.all_map];rfl
theorem de{L:Type}(f:L->D)(h:∀a,(f a).atom=Jc)(l:List L):D.atoms (l.map f)=Jc:=by
 induction l with
 |nil=>rfl
 |cons a l i=>show((f a).atom&&D.atoms (l.map f))=Jc;rw[h a,i];rfl
theorem yW(m:Nat):D.okds m []=Jc:=rfl
theorem b7{L:Type}(f:L->D)(h:∀a,(f a).okd m=Jc)(l:List L):D.okds m (l.map f)=Jc:=by
 induction l with
 |nil=>exact yW m
 |cons a l i=>show(D.okd m (f a)&&D.okds m (l.map f))=Jc;rw[h a,i];rfl
theorem d3(p:Nat×Nat):(dP p).atom=Jc:=rfl
theorem vv(p:Option Int):(dO p).atom=Jc:=by rcases p with⟨⟩<;>rfl
theorem k8(i:Int):(D.int i).atom=Jc:=rfl
structure Rect{α:Type}(t:List (List α))(h w:Nat):Prop where
 len:t.length=h
 row:∀r∈t,r.length=w
 h1:1<=h
 h8:h<=8
 w1:1<=w
 w8:w<=8
noncomputable def rowAt{L:Type}(t:List (List L))(i:Nat):List L:=t[i]?.getD []
def cell(t:List (List Int))(r c:Nat):Int:=(rowAt t r)[c]?.getD 0
theorem Rect.at_{L:Type}{t:List (List L)}(R:Rect t h w)(hi:i<h):t[i]? =Ja (rowAt t i)/\(rowAt t i).length=w:=by
 have:i<t.length:=by rw[R.len];exact hi
 rw[rowAt,Qg this];exact⟨rfl,R.row _<|KX this⟩
theorem gL{t:List (List Int)}{h w:Nat}(R:Rect t h w){i:Nat}(hi:i<h):dsub (dT t) (.int i)=Ja (dI (rowAt t i)):=iT<|by rw[Qu,(R.at_ hi).1];rfl
theorem g6(R:Rect t h w):dsub (dT t) (.int 0)=Ja (dI (rowAt t 0)):=gL R (i:=0) R.h1
theorem Rect.len0{t:List (List Int)}{h w:Nat}(R:Rect t h w):((rowAt t 0).map D.int).length=w:=by rw[Qd];exact(R.at_ R.h1).2
theorem Rect.lenD{t:List (List Int)}(R:Rect t h w):(t.map dI).length=h:=by rw[Qd];exact R.len
theorem gy{t:List (List Int)}{h w:Nat}(R:Rect t h w){i c:Nat}(hi:i<h)(C:c<w):dsub (dI (rowAt t i)) (.int c)=Ja (.int (cell t i c)):=by
 rw[gr (by exact QU _) (by rw[(R.at_ hi).2];exact Kf.mpr C)];rfl
theorem ky{r:List Int}(h:c<r.length):dsub (dI r) (.int c)=Ja (.int (r[c]?.getD 0)):=by
 rw[gr (by exact QU _) (by exact Kf.mpr h)];rfl
theorem dM(h:k<=1000):k<=lim:=Qv h<|by decide
theorem cS(h:k<1000):k<lim:=QK h<|by decide
noncomputable def allF:Nat->Nat->List (Nat×Nat)
 |0,_=>[]
 |h+1,w=>allF h w++(Qc w).map λc=>(h,c)
theorem mx(h w:Nat):allF (h+1) w=allF h w++(Qc w).map λc=>(h,c):=rfl
theorem jb(h w:Nat):(allF h w).length=h*w:=by
 induction h with
 |zero=>rw[Nat.zero_mul];rfl
 |succ h i=>rw[mx,QG,i,Qd,QB,Nat.succ_mul]
theorem allF_mem{p:Nat×Nat}:p∈allF h w↔p.1<h/\p.2<w:=by
 induction h with
 |zero=>exact⟨λx=>(bQ x),λx=>absurd x.1 (Wf _)⟩
 |succ h i=>
  rw[mx,Qn,i,Ql]
  constructor
  ·rintro (⟨a,b⟩|⟨c,C,rfl⟩)
   ·exact⟨by exact Ye a,b⟩
   ·exact⟨QI _,Qi.mp C⟩
  ·rintro ⟨a,b⟩;by_cases q:p.1<h
   ·exact .inl ⟨q,b⟩
   ·exact .inr ⟨p.2,Qi.mpr b,by rw[<-show p.1=h by exact Nat.le_antisymm (zs a) (Kc.mp q)]⟩
theorem uV(h w:Nat):(allF h w).map dP++((Qc w).map λ(c:Nat)=> .tup [.int h,.int c])=(allF (h+1) w).map dP:=by
 rw[mx,QD,QE];rfl
noncomputable def rsF(t:List (List Int)):List Int:=t.map Wo
noncomputable def csF(t:List (List Int))(w:Nat):List Int:=(Qc w).map λc=>(t.map λr=>r[c]?.getD 0).sum
theorem ib{tst:DRho->(Bool->Prop)->Prop}{el:DRho->DQ->Prop}{K:List D->Tag->Prop}(f:Nat->D)(p:Nat->Bool)
  (h:∀i,i<n->dOR (λP=>(∀T:Bool->Prop,T (p i)->tst P T)/\(p i=Jc->∀K:DQ,K (f i) Jb->el P K)) (bp tg (.int i) L))(k:K (((Qc n).filter p).map f) Jb):
  dcomp tg L t tst el ((Qc n).map λ(i:Nat)=> .int i) [] Jb K:=e8 (λ(i:Nat)=> .int i) f p (· <n) h _ [] (λa H=>Qi.mp H) k
theorem cg{L:Type}{l:List L}{tst:DRho->(Bool->Prop)->Prop}{el:DRho->DQ->Prop}{K:List D->Tag->Prop}(g f:L->D)(p:L->Bool)
  (h:∀a,a∈l->dOR (λP=>(∀T:Bool->Prop,T (p a)->tst P T)/\(p a=Jc->∀K:DQ,K (f a) Jb->el P K)) (bp tg (g a) j))(k:K ((l.filter p).map f) Jb):
  dcomp tg j t tst el (l.map g) [] Jb K:=e8 g f p (· ∈l) h _ [] (λa H=>H) k
noncomputable abbrev dL(l:List (List D)):D:= .list (l.map .list)
theorem BB(t:List (List (Option Int))):dC t=dL (t.map λr=>r.map dO):=by
 show D.list _=D.list (Kt _<|Kt _ _);rw[QE];rfl
def gridF(l:List (List D)):Bool:=decide (1<=l.length/\l.length<=8)&&(decide (1<=(rowAt l 0).length/\(rowAt l 0).length<=8)&&l.all λr=>decide (r.length=(rowAt l 0).length))
theorem Rect.grid{L:Type}{t:List (List L)}{h w:Nat}(R:Rect t h w)(f:L->D):gridF (t.map λr=>r.map f)=Jc:=by
 have b:rowAt (t.map λr=>r.map f) 0=(rowAt t 0).map f:=by
  rw[rowAt,Qu,(R.at_ R.h1).1];rfl
 have e:(rowAt (t.map λr=>r.map f) 0).length=w:=by rw[b,Qd];exact(R.at_ R.h1).2
 rw[gridF,e,Qd,R.len,Y4 ⟨R.h1,R.h8⟩,Y4 ⟨R.w1,R.w8⟩,WP,WP,Qx];intro r n;obtain⟨y,H,rfl⟩:=Ql.mp n;rw[Qd,R.row y H];exact Y4 rfl
def hidF(ps:List (Nat×Nat))(r c:Nat):Bool:=(ps.map dP).any λd=>D.eqv d<|dP (r,c)
def cellO(t:List (List Int))(h:Nat->Nat->Bool)(r c:Nat):Option Int:=cond (h r c) Jb<|Ja (cell t r c)
def cellsF(t:List (List Int))(i:Nat->Nat->Bool)(h w:Nat):List (List (Option Int)):=(Qc h).map λr=>(Qc w).map λc=>cellO t i r c
theorem qe(t:List (List Int))(h:Nat->Nat->Bool)(w j:Nat):dC (cellsF t h (j+1) w)= .list ((cellsF t h j w).map dR++[.list ((Qc w).map λ(c:Nat)=>dO (cellO t h j c))]):=by
 rw[show cellsF t h (j+1) w=cellsF t h j w++[(Qc w).map λc=>cellO t h j c] from(gP _ _).symm];show D.list (Kt dR<|_++_)=_;rw[QD];show D.list (_++[D.list (Kt _<|Kt _ _)])=_;rw[QE];rfl
abbrev viewF(t:List (List Int))(i:Nat->Nat->Bool)(h w:Nat):D:= .tup [dC (cellsF t i h w),dI<|rsF t,dI (csF t w)]
theorem lY{L:Type}(g:L->Option Int)(l:List L):dInts ((l.filter λa=>(g a).isSome).map λa=>dO (g a))=Ja (l.filterMap g):=by
 induction l with
 |nil=>rfl
 |cons a l W=>
  induction h:g a with
  |none=>rw[Kq (by rw[h];exact QF),W,List.filterMap_cons_none h]
  |some i=>
   rw[Ko (by rw[h];rfl),Qq,List.filterMap_cons_some h,h];show(dInts _).map (i:: ·)=_;rw[W];rfl
theorem nj{r:List (Option Int)}(h:c<r.length):dsub (dR r) (.int c)=Ja (dO (r[c]?.getD Jb)):=iT<|by rw[Qu,Qg h];rfl
theorem hW{t:List (List (Option Int))}{h w:Nat}(R:Rect t h w){i:Nat}(hi:i<h):dsub (dC t) (.int i)=Ja (dR (rowAt t i)):=iT<|by rw[Qu,(R.at_ hi).1];rfl
theorem lP(R:Rect t h w):dsub (dC t) (.int 0)=Ja (dR (rowAt t 0)):=hW R (i:=0) R.h1
def r1F(c:List (List (Option Int)))(r:List Int)(k:Nat):Int:=r[k]?.getD 0-((rowAt c k).filterMap id).sum
noncomputable def r2F(c:List (List (Option Int)))(s:List Int)(k:Nat):Int:=s[k]?.getD 0-(c.filterMap λr=>r[k]?.getD Jb).sum
theorem gm(o:Option Int):iW (dO o)=Jd/\(dO o).isNone= !o.isSome:=by rcases o with⟨⟩<;>exact⟨rfl,rfl⟩
theorem rZ{p:Prop}[Decidable p]{a b:Prop}(h:¬p->a)(N:p->b):cond (!decide p) a b:=j7 N h
theorem jh{args:List E}(h:dwe G M (.call f args) L (λo0 o0=>dwss G M u r L Q X) λc l=>X c l L):dwss G M u (.expr (.call f args)::r) L Q X:= .inr h
theorem k6{args:List E}(h:dio G c f L (λP=>dwss G c u r P Q X) (spl L args)):dwss G c u (.expr (.call f args)::r) L Q X:= .inl h
theorem zL(a:List (List Int))(b:List (List (Option Int))):((a.map dI).zip (b.map dR)).map (λp=>D.tup [p.1,p.2])=(a.zip b).map λp=> .tup [dI p.1,dR p.2]:=by
 rw[List.zip_map,QE];rfl
theorem y0(a:List Int)(b:List (Option Int)):((a.map D.int).zip (b.map dO)).map (λp=>D.tup [p.1,p.2])=(a.zip b).map λp=> .tup [.int p.1,dO p.2]:=by
 rw[List.zip_map,QE];rfl
def D.eqvs(a b:List D):Bool:=PyData.eqvAll (D.pys a)<|D.pys b
theorem tQ(a b:List D):D.eqv (.list a) (.list b)=D.eqvs a b:=rfl
theorem xi(a b:List D):D.eqv (.tup a) (.tup b)=D.eqvs a b:=rfl
theorem iw(x y:D)(a b:List D):D.eqvs (x::a) (y::b)=(D.eqv x y&&D.eqvs a b):=rfl
theorem nJ:D.eqvs [] []=Jc:=rfl
theorem wb(x:D)(a:List D):D.eqvs [] (x::a)=Jd:=rfl
theorem wX(x:D)(a:List D):D.eqvs (x::a) []=Jd:=rfl
theorem oG{L:Type}[DecidableEq L](f:L->D)(h:∀a b,D.eqv (f a) (f b)=decide (a=b)):∀a b:List L,D.eqvs (a.map f) (b.map f)=decide (a=b)
 |[],[]=>by rw[Wj,nJ,Y4 rfl]
 |[],y::b=>by rw[Wj,Qq,wb,Y5 (by simp)]
 |x::a,[]=>by rw[Wj,Qq,wX,Y5 (by simp)]
 |x::a,y::b=>by
  rw[Qq,Qq,iw,h,oG f h a b];by_cases e:x=y
  ·by_cases w:a=b
   ·simp[e,w]
   ·simp[e,w]
  ·simp[e]
theorem x5(a b:List Int):D.eqv (dI a) (dI b)=decide (a=b):=by rw[dI,dI,tQ];exact oG D.int cj a b
theorem AP(a b c d:D):D.eqv (.tup [a,b]) (.tup [c,d])=(D.eqv a c&&D.eqv b d):=by rw[xi,iw,iw,nJ,Yl]
mutual
theorem cQ:∀d:D,D.eqv d d=Jc
 | .none=>rfl
 | .bool b=>by rw[tD];exact beq_self_eq_true b
 | .int i=>by rw[cj];exact Y4 rfl
 | .str s=>by show(Qb s==Qb s)=Jc;exact beq_self_eq_true _
 | .tup l=>jB l
 | .list l=>jB l
 | .scr _=>rfl
 | .hole=>rfl
 | .inst _ _=>rfl
 | .dict _ _=>rfl
theorem jB:∀l:List D,D.eqvs l l=Jc
 |[]=>rfl
 |d::l=>by rw[iw,cQ d,jB l];rfl
end
theorem eO(m:Nat)(i:Int):D.okd m (.int i)=Jc:=by rcases m with⟨⟩<;>rfl
theorem c9(m:Nat)(l:List D):D.okd (m+1) (.list l)=D.okds m l:=rfl
theorem rA(m:Nat)(l:List D):D.okd (m+1) (.tup l)=D.okds m l:=rfl
theorem oO(m:Nat)(l:List Int):D.okd (m+1) (dI l)=Jc:=by rw[c9];exact b7 _ (eO m) l
theorem kZ(m:Nat)(l:List (List Int)):D.okd (m+2) (dT l)=Jc:=by rw[c9];exact b7 _ (oO m) l
theorem cz(m:Nat)(d:D)(l:List D):D.okds m (d::l)=(d.okd m&&D.okds m l):=rfl
theorem uK(m:Nat):D.okds m []=Jc:=rfl
def setF(t:List (List Int))(i j:Nat)(v:Int):List (List Int):=t.set i<|(rowAt t i).set j v
theorem Rect.set(R:Rect t h w)(hi:i<h):Rect (setF t i j v) h w:=by
 refine⟨by rw[setF,WC];exact R.len,λr n=> ?_,R.h1,R.h8,R.w1,R.w8⟩
 rcases List.mem_or_eq_of_mem_set n with q|rfl
 ·exact R.row r q
 ·rw[WC];exact(R.at_ hi).2
theorem tA(R:Rect t h w)(hi:i<h)(E:j<w)(a b:Nat):cell (setF t i j v) a b=if a=i/\b=j then v else cell t a b:=by
 have l:i<t.length:=by rw[R.len];exact hi
 have r:=(R.at_ hi).2;unfold cell rowAt setF;rw[KS];by_cases T:i=a
 ·subst T;rw[Y8 rfl,Y8 l];show((rowAt t i).set j v)[b]?.getD 0=_;rw[KS];by_cases H:j=b
  ·subst H;rw[Y8 rfl,Y8<|by exact zq E r.symm,Y8 ⟨rfl,rfl⟩];rfl
  ·rw[Y7 H,Y7 λq=>H q.2.symm];rfl
 ·rw[Y7 T,Y7 λq=>T q.1.symm]
theorem jy(R:Rect t h w):(∀r∈t,∀i∈r,0<=i)↔∀a b,a<h->b<w->0<=cell t a b:=by
 constructor
 ·intro N a b T v;have E:=(R.at_ T)
  have m:=Qz E.1;refine N _ m _ ?_;rw[cell,Qg (by rw[E.2];exact v)];exact KX _
 ·intro N r n i V;obtain⟨a,T,rfl⟩:=KT n;obtain⟨b,v,rfl⟩:=KT V;have:=N a b (by rw[<-R.len];exact T) (by rw[<-R.row _ n];exact v);rw[cell,rowAt,Qg T] at this;rw[show(Ja t[a]).getD []=t[a] from rfl,Qg v] at this;exact this
theorem yV{l:List D}(p:place l.length k=Ja j)(h:l[j]? =Ja v):dsub (.list l) (.int k)=Ja v:=by
 show((place l.length k).bind λj=>l[j]?)=_;rw[p];exact h
theorem sY(R:Rect t h w)(p:place h k=Ja i):dsub (dT t) (.int k)=Ja (dI (rowAt t i)):=by
 have V:i<h:=kT p;exact yV (by rw[Qd,R.len];exact p)<|by rw[Qu,(R.at_ V).1];rfl
theorem BC{t:List (List Int)}(R:Rect t h w)(p:place h k=Ja i)(r:List Int):updp [.int k] (λo0=>Ja (dI r)) (dT t)=Ja (dT (t.set i r)):=by
 show(place (t.map dI).length k).bind (λj=>((t.map dI)[j]?).bind λx=>Wn (λy=>D.list<|(t.map dI).set j y)<|Ja (dI r))=_;rw[R.lenD,p];show((t.map dI)[i]?).bind (λx=>Ja<|D.list ((t.map dI).set i (dI r)))=_;rw[Qu,(R.at_<|kT p).1];show Ja (D.list<|(t.map dI).set i (dI r))=_;rw[<-Yz]
section
variable{G:Gx}{cl cu:DCl}{Δ:DRho}{X:DX}{Qp:String->List D->D->Prop}
theorem i3(x):dpath G cl (.loc x) Δ Qp X=dOE (λp=>p.2=Jc/\Qp x [] p.1) (Δ.get x):=rfl
theorem mD(a i):dpath G cl (.sub a i) Δ Qp X=dpath G cl a Δ (λx ps n=>dwe G cl i Δ (λj o0=>isScr n=Jd/\dOD (λd=>Qp x (ps++[j]) d) (dsub n j)) X) X:=rfl
theorem zN{Q:bR}{X:DSX}{r:List S}{x:String}{s c e:E}{t:List (List Int)}{h w:Nat}(R:Rect t h w){ki kj:Int}{i j:Nat}{v:Int}(hx:Δ.get x=Ja (dT t,Jc))(hi:place h ki=Ja i)(H:place w kj=Ja j)
  (O:∀Q:D->DRho->Prop,Q (.int v) Δ->dwm G cl Δ e Δ Q)(n:∀ (Q:DQ) X,Q (.int ki) Jb->dwe G cl s Δ Q X)(C:∀ (Q:DQ) X,Q (.int kj) Jb->dwe G cl c Δ Q X)
  (k:dwss G cl cu r (Δ.put x (dT<|setF t i j v,Jc)) Q X):dwss G cl cu (.setIdx (.sub (.loc x) s) c e::r) Δ Q X:=by
 refine oq<|O _ ?_;rw[mD,i3,hx,aK];refine⟨rfl,n _ _ ⟨rfl,?_⟩⟩;rw[sY R hi,cV];refine C _ _ ?_;rw[vM,sS,Qd,(R.at_<|kT hi).2,H,cN];show dOE _ (Δ.get x);rw[hx,aK];show dOD _ (updp [.int ki] (λo0=>Ja<|.list (((rowAt t i).map D.int).set j (.int v))) (dT t));rw[<-Yz,show D.list (Kt D.int<|(rowAt t i).set j v)=dI ((rowAt t i).set j v) from rfl,BC R hi,cV];exact k
end
theorem mc{a:Int}{b:Nat}(h:1<=b):∃i:Nat,a.fmod b=i/\i<b:=by
 obtain⟨N,p⟩:=eX (a:=a) (b:=b) (by exact Kf.mpr h);exact⟨(a.fmod b).toNat,by exact(WR N).symm,by exact(KV N).mpr p⟩
structure EnvD(tab:List Fn)(C:Cx)(G:Gx)(mg mb:Jq->Option Jf):Prop where
 g:GOK C G mg mb
 x:ExcOK C G mg mb
 ok:C.ok
 F:∀t∈tab,X4 λa o fd body=>FnAt C t.f t.ps t.b a o fd body
theorem FnAt.un{C:Cx}{d:Jr}(F:FnAt C f ps s a o d body):FnAt C.un f ps s a o d body:=
 ⟨⟨F.ho,F.hd,F.cd,F.hb,F.clo,F.glb,F.blt,F.bind,F.par,F.nd,F.co,F.gen,F.kind,F.free⟩,F.fv,F.kp,F.mat⟩
theorem EnvD.un{tab:List Fn}{C:Cx}{G:Gx}{mg mb:Jq->Option Jf}(e:EnvD tab C G mg mb):EnvD tab C.un G.un mg mb:=⟨e.g.un,e.x.un,e.ok,λt h=>by obtain⟨a,o,f,b,F⟩:=e.F t h;exact⟨a,o,f,b,F.un⟩⟩
section
variable{tab:List Fn}{C:Cx}{G:Gx}{mg mb:Jq->Option Jf}{n:Nat}
theorem EnvD.runs(e:EnvD tab C G mg mb)(t:Fn)(h:t∈tab):Runs G (aO C n) (aO C.un n) (aO C (n+1)) t.f t.ps t.ls t.b:=λW v Q X l w=>by
 obtain⟨a,o,f,b,F⟩:=e.F t h;exact AY (todoE e.g e.x) (tS e.g e.x) (todoE e.g.un e.x.un) (tS e.g.un e.x.un) e.g F t.ls l w
structure Gen(C:Cx)(n:Nat)(Q:D->Bool->Prop)(X:DX)(cl cu:DCl)(PQ:bR)(PX:DSX):Prop where
 hc:∀ {f as R Y},aQ (aO C n) f as R Y->cl f as R Y
 io:∀ {f i as R},(aQ<|aO C n).io f i as R->cl.io f i as R
 hu:∀ {f as R Y},aQ (aO C.un n) f as R Y->cu f as R Y
 qn:∀ {Δ},Q .none Jc->PQ .next Δ
 qr:∀ {d b Δ},Q d b->PQ (.ret d b) Δ
 qx:∀ {c l Δ},X c l->PX c l Δ
theorem EnvD.fn(e:EnvD tab C G mg mb)(t:Fn)(h:t∈tab){args:List (D×Bool)}{Q:D->Bool->Prop}(l:t.ps.length=args.length)
  (w:∀c u P PX,Gen C n Q X c u P PX->dwss G c u t.b (drho0 t.ps t.ls args) P PX):aQ (aO C<|n+1) t.f args Q X:=zm l (w _ _ _ _ ⟨id,id,id,id,id,id⟩)<|e.runs t h
theorem EnvD.fnI(e:EnvD tab C G mg mb)(t:Fn)(h:t∈tab){args:List (D×Bool)}{Q:D->Prop}{x:String}{i:Nat}(l:t.ps.length=args.length)(o:t.ps.Nodup)(hx:t.ps[i]? =Ja x)(a:S.noass x t.b=Jc)
  (w:dwss G (aQ<|aO C n) (aQ<|aO C.un n) t.b (drho0 t.ps t.ls args) (dendI x Q) λo0 o0 o0=>False):(aQ<|aO C (n+1)).io t.f i args Q:=wS l o hx a w<|e.runs t h
end
section
variable{C:Cx}{G:Gx}{mg mb:Jq->Option Jf}{n:Nat}
theorem xn(g:GOK C G mg mb)(T:Todo C G n){c:Cls}(K:ClsC C c)(s:c.as=[a1])(p:c.es=[.loc a1,e2])(V:"self"≠a1){d:D}{Q:D->Bool->Prop}
  (w:dwe G (aQ<|aO C n) e2 [("self",Jb),(a1,Ja (d,Jd))] (λB J=>J=Jb/\Q (.inst c.nm [d,B]) Jc) λo0 o0=>False):aQ (aO C<|n+2) c.nm [(d,Jc)] Q X:=by
 intro t vs Fs Q' X' i k kx;cases i with
 |@cons _ _ v F _ ac ab r nd _ i=>
 cases i;obtain⟨a,l,fv,S,fl,o0⟩:=K;obtain⟨fI,N,F0,o0,o0,o0,o0,o0,ne,o0,j⟩:=S;obtain⟨oI,fd,L,Fn,f,hm⟩:=F0;refine pk g l fv N.kp N Fn f hm fl ne j (λe o0=>bP T g e) (by rw[s];rfl) [] λx hx=> ?_;rw[p,s];have hr:(rho0 ["self",a1] [] [.ref x,v]).get a1=Ja v:=(Y7 V).trans (Y8 rfl);show oV _ ((rho0 ["self",a1] [] [.ref x,v]).get a1);rw[hr];have ee:EnvE t [("self",Jb),(a1,Ja (d,Jd))] (rho0 ["self",a1] [] [.ref x,v]) (λy=>if y=a1 then F else []):=by
  refine⟨λy d' b e=> ?_,λy a H=> ?_,rfl⟩
  ·by_cases q:y=a1
   ·subst y;have e1:DRho.get [("self",Jb),(a1,Ja (d,Jd))] a1=Ja (d,Jd):=by
     rw[get_c,beq_eq_false_iff_ne.mpr V,get_c,beq_self_eq_true];rfl
    obtain⟨rfl,rfl⟩:=Prod.mk.inj<|sj (e1.symm.trans e);exact⟨v,hr,by rw[Y8 rfl];exact r⟩
   ·rw[get_c,get_c,beq_eq_false_iff_ne.mpr (Ne.symm q)] at e;by_cases z:("self"==y)=Jc
    ·rw[z] at e;exact ns e
    ·rw[Yi.mpr z] at e;exact ns e
  ·by_cases q:y=a1
   ·rw[Y8 q] at H;exact r.dom a H
   ·rw[Y7 q] at H;cases H
 refine bo e2 _ _ _ t _ (λo0 o0=>False) _ _ ee w (λB J R O P m W=> ?_) λo0 o0 o0 o0 o0 h o0=>h.elim;intro U I h1 h2 Z;obtain⟨rfl,m⟩:=m;have Y:Ext O ((O.set U<|.fd c.nm [v,R]).set I (.inst U)):=(Ext.set h1 _).trans (Ext.set ((PH.set_ne _ _<|Ne.symm Z).trans h2) _);have M:=W.part.own rfl;have A:∀a∈F,a∈owned [(d,Jc)] [F]:=λa H=>Qf _ H;have u:Ext t ((O.set U<|.fd c.nm [v,R]).set I (.inst U)):=W.ext.trans Y;refine k (.inst c.nm [d,B]) Jc (.ref I) _ (F++P) m ⟨⟨I,U,[v,R],rfl,PH.set_same _ _ _,(PH.set_ne _ _ Z).trans (PH.set_same _ _ _),v,[R],F,P,rfl,rfl,r.ext u,R,[],P,[],rfl,(QH _).symm,W.rd.ext Y,rfl,rfl⟩,λa o e o0=>u a o e,λo0=>⟨?_,λa H=> ?_⟩,λa H=> ?_⟩
 ·refine Qo.mpr ⟨nd rfl,M.1,λa H b hb q=> ?_⟩;subst q;obtain⟨o,e⟩:=r.dom a H;exact ns<|(M.2 a hb).symm.trans e
 ·rcases Qn.mp H with H|H
  ·exact .inr<|A a H
  ·exact .inl<|M.2 a H
 ·rcases Qn.mp H with H|H
  ·exact .inr<|Qf _ H
  ·exact .inl<|M.2 a H
theorem tY(g:GOK C G mg mb)(T:Todo C G n){c:Cls}(K:ClsC C c)(s:c.as=[a1])(p:c.es=[.loc a1,e2])(V:"self"≠a1){d:D}{Q:D->Bool->Prop}
  (w:dwe G (aQ<|aO C n) e2 [("self",Jb),(a1,Ja (d,Jd))] (λB J=>J=Jb/\Q (.inst c.nm [d,B]) Jd) λo0 o0=>False):aQ (aO C<|n+2) c.nm [(d,b)] Q X:=by
 intro t vs Fs Q' X' i k kx;cases i with
 |@cons _ _ v F _ ac ab r nd _ i=>
 cases i;obtain⟨a,l,fv,S,fl,o0⟩:=K;obtain⟨fI,N,F0,o0,o0,o0,o0,o0,ne,o0,j⟩:=S;obtain⟨oI,fd,A,Fn,f,hm⟩:=F0;refine pk g l fv N.kp N Fn f hm fl ne j (λe o0=>bP T g e) (by rw[s];rfl) [] λx hx=> ?_;rw[p,s];have L:(rho0 ["self",a1] [] [.ref x,v]).get a1=Ja v:=(Y7 V).trans (Y8 rfl);show oV _ ((rho0 ["self",a1] [] [.ref x,v]).get a1);rw[L];have ee:EnvE t [("self",Jb),(a1,Ja (d,Jd))] (rho0 ["self",a1] [] [.ref x,v]) (λy=>if y=a1 then F else []):=by
  refine⟨λy d' b e=> ?_,λy a H=> ?_,rfl⟩
  ·by_cases q:y=a1
   ·subst y;have e1:DRho.get [("self",Jb),(a1,Ja (d,Jd))] a1=Ja (d,Jd):=by
     rw[get_c,beq_eq_false_iff_ne.mpr V,get_c,beq_self_eq_true];rfl
    obtain⟨rfl,rfl⟩:=Prod.mk.inj<|sj (e1.symm.trans e);exact⟨v,L,by rw[Y8 rfl];exact r⟩
   ·rw[get_c,get_c,beq_eq_false_iff_ne.mpr (Ne.symm q)] at e;by_cases z:("self"==y)=Jc
    ·rw[z] at e;exact ns e
    ·rw[Yi.mpr z] at e;exact ns e
  ·by_cases q:y=a1
   ·rw[Y8 q] at H;exact r.dom a H
   ·rw[Y7 q] at H;cases H
 refine bo e2 _ _ _ t _ (λo0 o0=>False) _ _ ee w (λB J R O P m W=> ?_) λo0 o0 o0 o0 o0 h o0=>h.elim;intro U I h1 h2 Z;obtain⟨rfl,m⟩:=m;have Y:Ext O ((O.set U<|.fd c.nm [v,R]).set I (.inst U)):=(Ext.set h1 _).trans (Ext.set ((PH.set_ne _ _<|Ne.symm Z).trans h2) _);have M:=W.part.own rfl;have u:Ext t ((O.set U<|.fd c.nm [v,R]).set I (.inst U)):=W.ext.trans Y;refine k (.inst c.nm [d,B]) Jd (.ref I) _ (F++P) m ⟨⟨I,U,[v,R],rfl,PH.set_same _ _ _,(PH.set_ne _ _ Z).trans (PH.set_same _ _ _),v,[R],F,P,rfl,rfl,r.ext u,R,[],P,[],rfl,(QH _).symm,W.rd.ext Y,rfl,rfl⟩,λa o e o0=>u a o e,λq=>ft q,λa H=> ?_⟩
 rcases Qn.mp H with H|H
 ·exact .inr<|Qf _ H
 ·exact .inl<|M.2 a H
theorem u9(g:GOK C G mg mb)(T:Todo C G n){c:Cls}(K:ClsC C c)(h:c.as=[a1,a2,a3])(s:c.es=[.loc a1,.loc a2,.loc a3])(M:["self",a1,a2,a3].Nodup){d1 I B:D}{Q:D->Bool->Prop}
  (w:Q (.inst c.nm [d1,I,B]) Jd):aQ (aO C<|n+2) c.nm [(d1,u),(I,b2),(B,z)] Q X:=by
 intro W vs Fs Q' X' r k kx;cases r with
 |@cons _ _ f L _ _ _ r1 ab _ r=>
 cases r with
 |@cons _ _ b t _ _ _ m R _ r=>
 cases r with
 |@cons _ _ v F _ _ _ r3 Y _ r=>
 cases r;obtain⟨a,i,fv,S,fl,o0⟩:=K;obtain⟨fI,N,p,o0,o0,o0,o0,o0,J,o0,j⟩:=S;obtain⟨oI,fd,y,Fn,Z,H⟩:=p;refine pk g i fv N.kp N Fn Z H fl J j (λe o0=>bP T g e) (by rw[h];rfl) [] λx hx=> ?_;rw[s,h];simp only[Qy,Qt,Kl,or_false,not_or] at M;obtain⟨⟨O,n2,V⟩,⟨n4,n5⟩,n6,o0⟩:=M;have l:(rho0 ["self",a1,a2,a3] [] [.ref x,f,b,v]).get a1=Ja f:=(Y7 O).trans (Y8 rfl);have A:(rho0 ["self",a1,a2,a3] [] [.ref x,f,b,v]).get a2=Ja b:=(Y7 n2).trans ((Y7 n4).trans (Y8 rfl));have g3:(rho0 ["self",a1,a2,a3] [] [.ref x,f,b,v]).get a3=Ja v:=(Y7 V).trans ((Y7 n5).trans ((Y7 n6).trans (Y8 rfl)));show oV _ ((rho0 ["self",a1,a2,a3] [] [.ref x,f,b,v]).get a1);rw[l];show oV _ ((rho0 ["self",a1,a2,a3] [] [.ref x,f,b,v]).get a2);rw[A];show oV _ ((rho0 ["self",a1,a2,a3] [] [.ref x,f,b,v]).get a3);rw[g3];intro d E h1 h2 U;have P:Ext W ((W.set d<|.fd c.nm [f,b,v]).set E (.inst d)):=(Ext.set h1 _).trans (Ext.set ((PH.set_ne _ _<|Ne.symm U).trans h2) _);exact k (.inst c.nm [d1,I,B]) Jd (.ref E) _ (L++(t++(F++[]))) w ⟨⟨E,d,[f,b,v],rfl,PH.set_same _ _ _,(PH.set_ne _ _ U).trans (PH.set_same _ _ _),f,[b,v],L,_,rfl,rfl,r1.ext P,b,[v],t,_,rfl,rfl,m.ext P,v,[],F,[],rfl,rfl,r3.ext P,rfl,rfl⟩,λa o e o0=>P a o e,λq=>ft q,λa ha=> .inr ha⟩
end
noncomputable def iF:Fn:=⟨"near_of",["places"],["found","place"],
 [.assign (.name "found") (.dict0),
  .for_ (.name "place") .val [.loc "places"] [.expr (.meth (.sd (.loc "found")<|.tup [.glob "ROW",.sub (.loc "place") (.int 0)]) .append [.tup [.tup [.glob "COLUMN",.sub (.loc "place") (.int 1)],.loc "place"]]),.expr (.meth (.sd (.loc "found")<|.tup [.glob "COLUMN",.sub (.loc "place") (.int 1)]) .append [.tup [.tup [.glob "ROW",.sub (.loc "place") (.int 0)],.loc "place"]])],
  .ret (.loc "found")]⟩
noncomputable def fw:Fn:=⟨"reached",["near","counts","starts","banned"],["came","waiting","start","at","here","other","place"],
 [.assign (.name "came") (.dict0),
  .assign (.name "waiting") (.list []),
  .for_ (.name "start") .val [.loc "starts"] [.setIdx (.loc "came") (.loc "start") (.none),.expr (.meth (.loc "waiting") .append [.loc "start"])],
  .assign (.name "at") (.int 0),
  .while_ (.cmp .lt (.loc "at")<|.bi .len [.loc "waiting"]) [.assign (.name "here") (.sub (.loc "waiting")<|.loc "at"),.assign (.name "at")<|.bin .add (.loc "at") (.int 1),.for_ (.tup ["other","place"]) .val [.get (.loc "near") (.loc "here")] [.if_ (.and_ (.cmp .nin (.loc "other")<|.loc "came")<|.and_ (.cmp .ne (.loc "place")<|.loc "banned") (.or_ (.cmp .eq (.sub (.loc "here")<|.int 0)<|.glob "ROW")<|.cmp (.gt ()) (.sub (.loc "counts")<|.loc "place") (.int 0))) [.setIdx (.loc "came") (.loc "other") (.tup [.loc "here",.loc "place"]),.expr (.meth (.loc "waiting") .append [.loc "other"])] []]],
  .ret (.loc "came")]⟩
noncomputable def jc:Fn:=⟨"way_to",["came","goal"],["raised","lowered","here","ahead","place"],
 [.assign (.name "raised") (.list []),
  .assign (.name "lowered") (.list []),
  .assign (.name "here") (.loc "goal"),
  .while_ (.notNone<|.sub (.loc "came") (.loc "here")) [.assign (.tup ["ahead","place"]) (.sub (.loc "came")<|.loc "here"),.if_ (.cmp .eq (.sub (.loc "here")<|.int 0)<|.glob "COLUMN") [.expr (.meth (.loc "raised") .append [.loc "place"])] [.expr (.meth (.loc "lowered") .append [.loc "place"])],.assign (.name "here") (.loc "ahead")],
  .ret (.tup [.loc "raised",.loc "lowered",.loc "here"])]⟩
noncomputable def l4:Fn:=⟨"move",["counts","raised","lowered","amount"],["place"],
 [.for_ (.name "place") .val [.loc "raised"] [.setIdx (.loc "counts") (.loc "place") (.bin .add (.sub (.loc "counts") (.loc "place")) (.loc "amount"))],
  .for_ (.name "place") .val [.loc "lowered"] [.setIdx (.loc "counts") (.loc "place") (.bin .sub (.sub (.loc "counts") (.loc "place")) (.loc "amount"))]]⟩
noncomputable def eY:Fn:=⟨"numbers_of",["came","kind"],[],
 [.ret (.bi .sorted [.compIf (.loc "number") (.tup ["word","number"]) .val [.bi .list [.loc "came"]] (.cmp .eq (.loc "word") (.loc "kind"))])]⟩
noncomputable def eG:Fn:=⟨"is_count",["thing"],[],
 [.ret (.and_ (.isi (.loc "thing") ["int"]) (.and_ (.not_ (.isi (.loc "thing") ["bool"])) (.cmp .ge (.loc "thing") (.int 0))))]⟩
noncomputable def ix:Fn:=⟨"is_grid",["thing"],[],
 [.if_ (.or_ (.not_ (.isi (.loc "thing") ["list"])) (.not_ (.cmp2 (.int 1) .le (.bi .len [.loc "thing"]) .le (.glob "MOST")))) [.ret (.bool Jd)] [],
  .if_ (.or_ (.not_<|.bi .all [.comp (.isi (.loc "row") ["list"]) (.name "row") .val [.loc "thing"]])<|.not_ (.cmp2 (.int 1) .le (.bi .len [.sub (.loc "thing") (.int 0)]) .le<|.glob "MOST")) [.ret (.bool Jd)] [],
  .ret (.bi .all [.comp (.cmp .eq (.bi .len [.loc "row"]) (.bi .len [.sub (.loc "thing") (.int 0)])) (.name "row") .val [.loc "thing"]])]⟩
noncomputable def fg:Fn:=⟨"are_counts",["row"],[],
 [.ret (.bi .all [.comp (.call "is_count" [.loc "count"]) (.name "count") .val [.loc "row"]])]⟩
noncomputable def gT:Fn:=⟨"is_table",["thing"],[],
 [.ret (.and_ (.call "is_grid" [.loc "thing"]) (.bi .all [.comp (.call "are_counts" [.loc "row"]) (.name "row") .val [.loc "thing"]]))]⟩
noncomputable def fb:Fn:=⟨"need_table",["thing"],[],
 [.if_ (.not_ (.call "is_table" [.loc "thing"])) [.raise "BadTable" [.str "no table"]] []]⟩
noncomputable def eL:Fn:=⟨"need_number",["thing"],[],
 [.if_ (.or_ (.not_ (.call "is_count" [.loc "thing"])) (.cmp .eq (.loc "thing") (.int 0))) [.raise "BadNumber" [.str "no number from 1 on"]] []]⟩
noncomputable def iB:Fn:=⟨"sums_of",["table"],["columns"],
 [.assign (.name "columns") (.comp (.bi .sum [.comp (.sub (.loc "row") (.loc "column")) (.name "row") .val [.loc "table"]]) (.name "column") .range [.bi .len [.sub (.loc "table") (.int 0)]]),
  .ret (.tup [.comp (.bi .sum [.loc "row"]) (.name "row") .val [.loc "table"],.loc "columns"])]⟩
noncomputable def fZ:Fn:=⟨"places_of",["grid"],["found","row","column"],
 [.assign (.name "found") (.list []),
  .for_ (.name "row") .range [.bi .len [.loc "grid"]] [.for_ (.name "column") .range [.bi .len [.sub (.loc "grid") (.int 0)]] [.expr (.meth (.loc "found") .append [.tup [.loc "row",.loc "column"]])]],
  .ret (.loc "found")]⟩
noncomputable def gR:Fn:=⟨"is_small",["table","place","bound"],[],
 [.ret (.cmp2 (.int 1) .le (.sub (.sub (.loc "table") (.sub (.loc "place") (.int 0))) (.sub (.loc "place") (.int 1))) .le (.loc "bound"))]⟩
noncomputable def gD:Fn:=⟨"rests_of",["view"],["cells","rows","columns","found","others","k"],
 [.assign (.tup ["cells","rows","columns"]) (.loc "view"),
  .assign (.name "found") (.comp (.bin .sub (.sub (.loc "rows")<|.loc "k")<|.bi .sum [.compIf (.loc "count") (.name "count") .val [.sub (.loc "cells") (.loc "k")] (.notNone<|.loc "count")]) (.name "k") .range [.bi .len [.loc "rows"]]),
  .assign (.name "others") (.list []),
  .for_ (.name "k") .range [.bi .len [.loc "columns"]] [.expr (.meth (.loc "others") .append [.bin .sub (.sub (.loc "columns")<|.loc "k") (.bi .sum [.compIf (.sub (.loc "row")<|.loc "k") (.name "row") .val [.loc "cells"] (.notNone<|.sub (.loc "row") (.loc "k"))])])],
  .ret (.tup [.loc "found",.loc "others"])]⟩
noncomputable def gQ:Fn:=⟨"are_sums",["thing","many"],[],
 [.ret (.and_ (.isi (.loc "thing") ["list"]) (.and_ (.cmp .eq (.bi .len [.loc "thing"]) (.loc "many")) (.bi .all [.comp (.call "is_count" [.loc "one"]) (.name "one") .val [.loc "thing"]])))]⟩
noncomputable def iI:Fn:=⟨"is_view",["thing"],["row","rows","columns"],
 [.if_ (.or_ (.not_ (.isi (.loc "thing") ["tuple"])) (.or_ (.cmp .ne (.bi .len [.loc "thing"]) (.int 3)) (.not_ (.call "is_grid" [.sub (.loc "thing") (.int 0)])))) [.ret (.bool Jd)] [],
  .for_ (.name "row") .val [.sub (.loc "thing") (.int 0)] [.if_ (.not_<|.bi .all [.comp (.or_ (.isNone<|.loc "count")<|.call "is_count" [.loc "count"]) (.name "count") .val [.loc "row"]]) [.ret (.bool Jd)] []],
  .if_ (.or_ (.not_<|.call "are_sums" [.sub (.loc "thing") (.int 1),.bi .len [.sub (.loc "thing") (.int 0)]])<|.not_ (.call "are_sums" [.sub (.loc "thing") (.int 2),.bi .len [.sub (.sub (.loc "thing")<|.int 0) (.int 0)]])) [.ret (.bool Jd)] [],
  .assign (.tup ["rows","columns"]) (.call "rests_of" [.loc "thing"]),
  .ret (.and_ (.cmp .ge (.bi .min [.loc "rows"]) (.int 0)) (.and_ (.cmp .ge (.bi .min [.loc "columns"]) (.int 0)) (.cmp .eq (.bi .sum [.loc "rows"]) (.bi .sum [.loc "columns"]))))]⟩
noncomputable def fO:Fn:=⟨"need_view",["thing"],[],
 [.if_ (.not_ (.call "is_view" [.loc "thing"])) [.raise "BadView" [.str "no view"]] []]⟩
noncomputable def gU:Fn:=⟨"is_place",["thing","grid"],[],
 [.if_ (.or_ (.not_ (.isi (.loc "thing") ["tuple"])) (.or_ (.cmp .ne (.bi .len [.loc "thing"]) (.int 2)) (.or_ (.not_ (.call "is_count" [.sub (.loc "thing") (.int 0)])) (.not_ (.call "is_count" [.sub (.loc "thing") (.int 1)]))))) [.ret (.bool Jd)] [],
  .ret (.and_ (.cmp .lt (.sub (.loc "thing") (.int 0)) (.bi .len [.loc "grid"])) (.cmp .lt (.sub (.loc "thing") (.int 1)) (.bi .len [.sub (.loc "grid") (.int 0)])))]⟩
noncomputable def nq:Fn:=⟨"seen",["table","places"],["cells","row","column","sums"],
 [.assign (.name "cells") (.comp (.bi .list [.loc "row"]) (.name "row") .val [.loc "table"]),
  .for_ (.tup ["row","column"]) .val [.loc "places"] [.setIdx (.sub (.loc "cells")<|.loc "row") (.loc "column") (.none)],
  .assign (.name "sums") (.call "sums_of" [.loc "table"]),
  .ret (.tup [.loc "cells",.sub (.loc "sums") (.int 0),.sub (.loc "sums") (.int 1)])]⟩
noncomputable def fP:Fn:=⟨"hidden_in",["cells"],[],
 [.ret (.compIf (.loc "place") (.name "place") .val [.call "places_of" [.loc "cells"]] (.isNone (.sub (.sub (.loc "cells") (.sub (.loc "place") (.int 0))) (.sub (.loc "place") (.int 1)))))]⟩
noncomputable def fR:Fn:=⟨"counts_of",["view"],["places","near","counts","place","rows","columns","came","goals","raised","lowered","start","amount"],
 [.assign (.name "places") (.call "hidden_in" [.sub (.loc "view") (.int 0)]),
  .assign (.name "near") (.call "near_of" [.loc "places"]),
  .assign (.name "counts") (.dict0),
  .for_ (.name "place") .val [.loc "places"] [.setIdx (.loc "counts") (.loc "place") (.int 0)],
  .assign (.tup ["rows","columns"]) (.call "rests_of" [.loc "view"]),
  .while_ (.cmp (.gt ()) (.bi .sum [.loc "rows"])<|.int 0) [.assign (.name "came") (.call "reached" [.loc "near",.loc "counts",.compIf (.tup [.glob "ROW",.loc "k"]) (.name "k") .range [.bi .len [.loc "rows"]] (.cmp (.gt ()) (.sub (.loc "rows")<|.loc "k")<|.int 0),.none]),.assign (.name "goals")<|.compIf (.loc "k") (.name "k") .val [.call "numbers_of" [.loc "came",.glob "COLUMN"]] (.cmp (.gt ()) (.sub (.loc "columns")<|.loc "k")<|.int 0),.if_ (.cmp .eq (.loc "goals")<|.list []) [.raise "NoTable" [.call "numbers_of" [.loc "came",.glob "ROW"],.call "numbers_of" [.loc "came",.glob "COLUMN"]]] [],.assign (.tup ["raised","lowered","start"])<|.call "way_to" [.loc "came",.tup [.glob "COLUMN",.sub (.loc "goals") (.int 0)]],.assign (.name "amount")<|.bi .min [.bin .add (.list [.sub (.loc "rows") (.sub (.loc "start")<|.int 1),.sub (.loc "columns") (.sub (.loc "goals")<|.int 0)]) (.comp (.sub (.loc "counts")<|.loc "place") (.name "place") .val [.loc "lowered"])],.expr<|.call "move" [.loc "counts",.loc "raised",.loc "lowered",.loc "amount"],.setIdx (.loc "rows") (.sub (.loc "start")<|.int 1)<|.bin .sub (.sub (.loc "rows")<|.sub (.loc "start") (.int 1)) (.loc "amount"),.setIdx (.loc "columns") (.sub (.loc "goals")<|.int 0) (.bin .sub (.sub (.loc "columns")<|.sub (.loc "goals") (.int 0))<|.loc "amount")],
  .ret (.loc "counts")]⟩
noncomputable def eM:Fn:=⟨"with_counts",["view","counts"],["table","row","column"],
 [.assign (.name "table") (.comp (.bi .list [.loc "row"]) (.name "row") .val [.sub (.loc "view") (.int 0)]),
  .for_ (.tup ["row","column"]) .val [.bi .list [.loc "counts"]] [.setIdx (.sub (.loc "table")<|.loc "row") (.loc "column") (.sub (.loc "counts")<|.tup [.loc "row",.loc "column"])],
  .ret (.loc "table")]⟩
noncomputable def fW:Fn:=⟨"bounds_at",["view","place"],[],
 [.expr (.call "need_view" [.loc "view"]),
  .if_ (.or_ (.not_<|.call "is_place" [.loc "place",.sub (.loc "view") (.int 0)])<|.cmp .nin (.loc "place") (.call "hidden_in" [.sub (.loc "view") (.int 0)])) [.raise "BadPlace" [.str "no hidden place"]] [],
  .ret (.call "Bounds" [.call "counts_of" [.loc "view"]])]⟩
noncomputable def nk:Fn:=⟨"ends",["view","place"],["bounds","low","high"],
 [.assign (.name "bounds") (.call "bounds_at" [.loc "view",.loc "place"]),
  .assign (.name "low") (.sub (.mcall "Bounds" "Bounds.least" (.loc "bounds") [.loc "place",.none])<|.int 0),
  .assign (.name "high") (.sub (.mcall "Bounds" "Bounds.greatest" (.loc "bounds") [.loc "place",.none])<|.int 0),
  .ret (.tup [.call "with_counts" [.loc "view",.loc "low"],.call "with_counts" [.loc "view",.loc "high"]])]⟩
noncomputable def ng:Fn:=⟨"hide",["table","bound","width"],["hider","first","places","road","others","view","pairs","place","low","high"],
 [.expr (.call "need_table" [.loc "table"]),
  .expr (.call "need_number" [.loc "bound"]),
  .expr (.call "need_number" [.loc "width"]),
  .assign (.name "hider") (.call "Hider" [.loc "table",.loc "bound",.loc "width"]),
  .assign (.name "first") (.compIf (.loc "place") (.name "place") .val [.call "places_of" [.loc "table"]] (.mcall "Hider" "Hider.small" (.loc "hider") [.loc "place"])),
  .if_ (.cmp .eq (.loc "first")<|.list []) [.ret (.tup [.list [],.list [],.list [],.list []])] [],
  .assign (.tup ["places","road"]) (.mcall "Hider" "Hider.peeled" (.loc "hider") [.call "places_of" [.loc "table"]]),
  .if_ (.isNone<|.loc "places") [.raise "NotHidden" [.loc "road"]] [],
  .assign (.name "places") (.mcall "Hider" "Hider.fewest" (.loc "hider") [.loc "places"]),
  .assign (.name "others") (.compIf (.loc "place") (.name "place") .val [.loc "places"] (.not_<|.mcall "Hider" "Hider.small" (.loc "hider") [.loc "place"])),
  .assign (.name "view") (.call "seen" [.loc "table",.loc "places"]),
  .assign (.name "pairs") (.list []),
  .for_ (.name "place") .val [.loc "places"] [.assign (.tup ["low","high"]) (.call "ends" [.loc "view",.loc "place"]),.expr (.meth (.loc "pairs") .append [.tup [.loc "place",.loc "low",.loc "high"]])],
  .ret (.tup [.loc "first",.loc "others",.loc "pairs",.comp (.tup [.loc "place",.sub (.mcall "Hider" "Hider.without" (.loc "hider") [.loc "places",.loc "place"]) (.int 1)]) (.name "place") .val [.loc "others"]])]⟩
noncomputable def f__law_mix:Fn:=⟨"_law_mix",["_law_script","_law_k"],["_law_cell","_law_number"],
 [.assign (.name "_law_cell") (.int 0),
  .if_ (.cmp (.gt ()) (.bi .len [.loc "_law_script"])<|.int 0) [.assign (.name "_law_cell") (.bin .add (.sub (.loc "_law_script")<|.bin .mod (.loc "_law_k") (.bi .len [.loc "_law_script"]))<|.bin .fdiv (.loc "_law_k") (.bi .len [.loc "_law_script"]))] [],
  .assign (.name "_law_number") (.bin .mod (.bin .mul (.bin .add (.loc "_law_cell")<|.bin .mul (.int 7919) (.bin .add (.loc "_law_k")<|.int 1))<|.int 48271)<|.int 2147483647),
  .ret (.bin .mod (.bin .mul (.loc "_law_number") (.loc "_law_number")) (.int 2147483629))]⟩
noncomputable def e9:Fn:=⟨"_law_count",["_law_script","_law_k"],["_law_number","_law_more","_law_some"],
 [.assign (.name "_law_number") (.call "_law_mix" [.loc "_law_script",.loc "_law_k"]),
  .assign (.name "_law_more") (.bin .fdiv (.loc "_law_number")<|.int 8),
  .if_ (.cmp .eq (.bin .mod (.loc "_law_number")<|.int 8)<|.int 0) [.ret (.int 0)] [],
  .assign (.name "_law_some") (.list [.bin .mod (.loc "_law_more") (.int 3),.bin .mod (.loc "_law_more")<|.int 5,.bin .mod (.loc "_law_more")<|.int 12,.sub (.list [.int 0,.int 1,.int 2,.int 40])<|.bin .mod (.loc "_law_more") (.int 4),.bin .mod (.loc "_law_more")<|.int 1000,.bin .add (.bin .mul (.loc "_law_more")<|.bin (.pow ()) (.int 10) (.int 11)) (.bin .mod (.loc "_law_more")<|.int 7)]),
  .ret (.sub (.loc "_law_some") (.bin .mod (.call "_law_mix" [.loc "_law_script",.int 2]) (.int 6)))]⟩
noncomputable def f__law_sides:Fn:=⟨"_law_sides",["_law_script"],["_law_number","_law_high","_law_wide"],
 [.assign (.name "_law_number") (.call "_law_mix" [.loc "_law_script",.int 5]),
  .assign (.name "_law_high") (.bin .add (.int 2)<|.bin .mod (.call "_law_mix" [.loc "_law_script",.int 0]) (.int 3)),
  .assign (.name "_law_wide") (.bin .add (.int 2)<|.bin .mod (.call "_law_mix" [.loc "_law_script",.int 1]) (.int 3)),
  .if_ (.cmp .eq (.bin .mod (.loc "_law_number")<|.int 9)<|.int 0) [.assign (.tup ["_law_high","_law_wide"]) (.sub (.list [.tup [.int 5,.bin .add (.int 2) (.bin .mod (.loc "_law_wide")<|.int 2)],.tup [.bin .add (.int 2) (.bin .mod (.loc "_law_high")<|.int 2),.int 5]])<|.bin .mod (.bin .fdiv (.loc "_law_number")<|.int 9) (.int 2))] [],
  .if_ (.cmp .eq (.bin .mod (.bin .fdiv (.loc "_law_number")<|.int 64)<|.int 9)<|.int 0) [.assign (.tup ["_law_high","_law_wide"]) (.sub (.list [.tup [.int 1,.bin .add (.int 1) (.bin .mod (.bin .fdiv (.loc "_law_number")<|.int 1152)<|.int 8)],.tup [.bin .add (.int 1) (.bin .mod (.bin .fdiv (.loc "_law_number")<|.int 1152)<|.int 8),.int 1]])<|.bin .mod (.bin .fdiv (.loc "_law_number")<|.int 576) (.int 2))] [],
  .ret (.tup [.loc "_law_high",.loc "_law_wide"])]⟩
noncomputable def dq:Fn:=⟨"_law_hide_count",["_law_script","_law_k"],["_law_number","_law_more","_law_some"],
 [.assign (.name "_law_number") (.call "_law_mix" [.loc "_law_script",.loc "_law_k"]),
  .assign (.name "_law_more") (.bin .fdiv (.loc "_law_number")<|.int 8),
  .if_ (.cmp .eq (.bin .mod (.bin .fdiv (.call "_law_mix" [.loc "_law_script",.int 2])<|.int 6)<|.int 9)<|.int 0) [.ret (.call "_law_count" [.loc "_law_script",.loc "_law_k"])] [],
  .assign (.name "_law_some") (.list [.int 0,.bin .add (.int 1)<|.bin .mod (.loc "_law_more") (.int 4),.bin .add (.int 1)<|.bin .mod (.loc "_law_more") (.int 4),.bin .add (.int 5)<|.bin .mod (.loc "_law_more") (.int 9),.bin .add (.int 5)<|.bin .mod (.loc "_law_more") (.int 9),.bin .add (.int 5)<|.bin .mod (.loc "_law_more") (.int 16),.bin .add (.int 4)<|.bin .mod (.loc "_law_more") (.int 9),.bin .mod (.loc "_law_more") (.int 40)]),
  .ret (.sub (.loc "_law_some") (.bin .mod (.loc "_law_number") (.int 8)))]⟩
noncomputable def fj:Fn:=⟨"_law_drawn",["_law_script"],["_law_high","_law_wide","_law_table","_law_row","_law_number"],
 [.assign (.tup ["_law_high","_law_wide"]) (.call "_law_sides" [.loc "_law_script"]),
  .assign (.name "_law_table") (.list []),
  .for_ (.name "_law_row") .range [.loc "_law_high"] [.expr (.meth (.loc "_law_table") .append [.comp (.call "_law_hide_count" [.loc "_law_script",.bin .add (.bin .add (.int 8)<|.bin .mul (.loc "_law_wide") (.loc "_law_row")) (.loc "_law_column")]) (.name "_law_column") .range [.loc "_law_wide"]])],
  .assign (.name "_law_number") (.call "_law_mix" [.loc "_law_script",.int 79]),
  .if_ (.cmp (.gt ()) (.bin .mod (.loc "_law_number")<|.int 4)<|.int 0) [.setIdx (.sub (.loc "_law_table")<|.bin .mod (.call "_law_mix" [.loc "_law_script",.int 77]) (.loc "_law_high")) (.bin .mod (.call "_law_mix" [.loc "_law_script",.int 78])<|.loc "_law_wide") (.bin .add (.int 1)<|.bin .mod (.bin .fdiv (.loc "_law_number")<|.int 4) (.int 2))] [],
  .ret (.loc "_law_table")]⟩
noncomputable def fq:Fn:=⟨"_law_bound",["_law_script"],["_law_number"],
 [.assign (.name "_law_number") (.call "_law_mix" [.loc "_law_script",.int 3]),
  .if_ (.cmp .eq (.bin .mod (.loc "_law_number")<|.int 12)<|.int 0) [.ret (.bin .add (.int 1)<|.bin .mod (.bin .fdiv (.loc "_law_number")<|.int 12) (.bin (.pow ()) (.int 10)<|.int 9))] [],
  .ret (.bin .add (.int 1) (.bin .mod (.bin .fdiv (.loc "_law_number") (.int 12)) (.int 4)))]⟩
noncomputable def e7:Fn:=⟨"_law_width",["_law_script","_law_table"],["_law_number","_law_more"],
 [.assign (.name "_law_number") (.call "_law_mix" [.loc "_law_script",.int 4]),
  .assign (.name "_law_more") (.bin .fdiv (.loc "_law_number")<|.int 8),
  .if_ (.cmp (.gt ()) (.bin .mul (.bi .len [.loc "_law_table"])<|.bi .len [.sub (.loc "_law_table") (.int 0)])<|.int 9) [.ret (.bin .add (.int 1)<|.bin .mod (.loc "_law_more") (.int 3))] [],
  .ret (.bin .add (.int 1) (.sub (.list [.bin .mod (.loc "_law_more") (.int 3),.bin .mod (.loc "_law_more") (.int 3),.bin .mod (.loc "_law_more") (.int 3),.bin .mod (.loc "_law_more") (.int 2),.bin .mod (.loc "_law_more") (.int 5),.bin .mod (.loc "_law_more") (.int 8),.bin .mod (.loc "_law_more") (.int 60),.bin .mod (.loc "_law_more") (.bin (.pow ()) (.int 10) (.int 9))]) (.bin .mod (.loc "_law_number") (.int 8))))]⟩
noncomputable def gN:Fn:=⟨"_law_all",["_law_table"],["_law_found","_law_row"],
 [.assign (.name "_law_found") (.list []),
  .for_ (.name "_law_row") .range [.bi .len [.loc "_law_table"]] [.assign (.name "_law_found") (.bin .add (.loc "_law_found")<|.comp (.tup [.loc "_law_row",.loc "_law_column"]) (.name "_law_column") .range [.bi .len [.sub (.loc "_law_table") (.int 0)]])],
  .ret (.loc "_law_found")]⟩
noncomputable def c5:Fn:=⟨"_law_column_sums",["_law_table"],[],
 [.ret (.comp (.bi .sum [.comp (.sub (.loc "_law_row") (.loc "_law_column")) (.name "_law_row") .val [.loc "_law_table"]]) (.name "_law_column") .range [.bi .len [.sub (.loc "_law_table") (.int 0)]])]⟩
noncomputable def fX:Fn:=⟨"_law_view",["_law_table","_law_places"],["_law_cells","_law_row"],
 [.assign (.name "_law_cells") (.list []),
  .for_ (.name "_law_row") .range [.bi .len [.loc "_law_table"]] [.expr (.meth (.loc "_law_cells") .append [.comp (.sub (.list [.sub (.sub (.loc "_law_table")<|.loc "_law_row") (.loc "_law_at"),.none])<|.bi .int [.cmp .in_ (.tup [.loc "_law_row",.loc "_law_at"]) (.loc "_law_places")]) (.name "_law_at") .range [.bi .len [.sub (.loc "_law_table") (.int 0)]]])],
  .ret (.tup [.loc "_law_cells",.comp (.bi .sum [.loc "_law_row"]) (.name "_law_row") .val [.loc "_law_table"],.call "_law_column_sums" [.loc "_law_table"]])]⟩
noncomputable def fi:Fn:=⟨"_law_small",["_law_table","_law_bound_here"],[],
 [.ret (.compIf (.loc "_law_place") (.name "_law_place") .val [.call "_law_all" [.loc "_law_table"]] (.cmp2 (.int 1) .le (.sub (.sub (.loc "_law_table") (.sub (.loc "_law_place") (.int 0))) (.sub (.loc "_law_place") (.int 1))) .le (.loc "_law_bound_here")))]⟩
noncomputable def fh:Fn:=⟨"_law_whole",["_law_thing"],[],
 [.ret (.and_ (.isi (.loc "_law_thing") ["int"]) (.not_ (.isi (.loc "_law_thing") ["bool"])))]⟩
noncomputable def gF:Fn:=⟨"_law_has",["_law_table","_law_view_here"],["_law_row","_law_cells","_law_count_here","_law_cell"],
 [.if_ (.or_ (.not_ (.isi (.loc "_law_table") ["list"])) (.cmp .ne (.bi .len [.loc "_law_table"]) (.bi .len [.sub (.loc "_law_view_here") (.int 0)]))) [.ret (.bool Jd)] [],
  .for_ (.tup ["_law_row","_law_cells"]) .zip [.loc "_law_table",.sub (.loc "_law_view_here") (.int 0)] [.if_ (.or_ (.not_<|.isi (.loc "_law_row") ["list"])<|.cmp .ne (.bi .len [.loc "_law_row"]) (.bi .len [.loc "_law_cells"])) [.ret (.bool Jd)] [],.for_ (.tup ["_law_count_here","_law_cell"]) .zip [.loc "_law_row",.loc "_law_cells"] [.if_ (.or_ (.not_<|.call "_law_whole" [.loc "_law_count_here"])<|.or_ (.cmp .lt (.loc "_law_count_here")<|.int 0) (.and_ (.notNone<|.loc "_law_cell")<|.cmp .ne (.loc "_law_cell") (.loc "_law_count_here"))) [.ret (.bool Jd)] []]],
  .ret (.and_ (.cmp .eq (.comp (.bi .sum [.loc "_law_row"]) (.name "_law_row") .val [.loc "_law_table"]) (.sub (.loc "_law_view_here") (.int 1))) (.cmp .eq (.call "_law_column_sums" [.loc "_law_table"]) (.sub (.loc "_law_view_here") (.int 2))))]⟩
noncomputable def cX:Fn:=⟨"_law_places_told",["_law_found","_law_table"],["_law_place"],
 [.if_ (.or_ (.not_ (.isi (.loc "_law_found") ["list"])) (.cmp .ne (.loc "_law_found") (.compIf (.loc "_law_place") (.name "_law_place") .val [.call "_law_all" [.loc "_law_table"]] (.cmp .in_ (.loc "_law_place") (.loc "_law_found"))))) [.ret (.bool Jd)] [],
  .for_ (.name "_law_place") .val [.loc "_law_found"] [.if_ (.or_ (.not_<|.isi (.loc "_law_place") ["tuple"])<|.or_ (.not_<|.call "_law_whole" [.sub (.loc "_law_place") (.int 0)]) (.not_<|.call "_law_whole" [.sub (.loc "_law_place") (.int 1)])) [.ret (.bool Jd)] []],
  .ret (.bool Jc)]⟩
noncomputable def fT:Fn:=⟨"_law_pair",["_law_table","_law_hidden","_law_pair_here","_law_width_here"],["_law_view_here","_law_row","_law_column"],
 [.if_ (.or_ (.not_ (.isi (.loc "_law_pair_here") ["tuple"])) (.or_ (.cmp .ne (.bi .len [.loc "_law_pair_here"]) (.int 3)) (.cmp .nin (.sub (.loc "_law_pair_here") (.int 0)) (.loc "_law_hidden")))) [.ret (.bool Jd)] [],
  .assign (.name "_law_view_here") (.call "_law_view" [.loc "_law_table",.loc "_law_hidden"]),
  .if_ (.or_ (.not_<|.call "_law_has" [.sub (.loc "_law_pair_here") (.int 1),.loc "_law_view_here"])<|.not_ (.call "_law_has" [.sub (.loc "_law_pair_here") (.int 2),.loc "_law_view_here"])) [.ret (.bool Jd)] [],
  .assign (.tup ["_law_row","_law_column"]) (.sub (.loc "_law_pair_here")<|.int 0),
  .ret (.cmp .ge (.bi .abs [.bin .sub (.sub (.sub (.sub (.loc "_law_pair_here") (.int 1)) (.loc "_law_row")) (.loc "_law_column")) (.sub (.sub (.sub (.loc "_law_pair_here") (.int 2)) (.loc "_law_row")) (.loc "_law_column"))]) (.loc "_law_width_here"))]⟩
noncomputable def f__law_right:Fn:=⟨"_law_right",["_law_table","_law_bound_here","_law_width_here","_law_paper"],["_law_first","_law_others","_law_pairs","_law_roads","_law_hidden"],
 [.if_ (.or_ (.not_ (.isi (.loc "_law_paper") ["tuple"])) (.or_ (.cmp .ne (.bi .len [.loc "_law_paper"]) (.int 4)) (.not_ (.bi .all [.comp (.isi (.loc "_law_part") ["list"]) (.name "_law_part") .val [.loc "_law_paper"]])))) [.ret (.bool Jd)] [],
  .assign (.tup ["_law_first","_law_others","_law_pairs","_law_roads"]) (.loc "_law_paper"),
  .if_ (.or_ (.not_<|.call "_law_places_told" [.loc "_law_first",.loc "_law_table"])<|.not_ (.call "_law_places_told" [.loc "_law_others",.loc "_law_table"])) [.ret (.bool Jd)] [],
  .if_ (.or_ (.cmp .ne (.loc "_law_first")<|.call "_law_small" [.loc "_law_table",.loc "_law_bound_here"])<|.bi .any [.comp (.cmp .in_ (.loc "_law_place")<|.loc "_law_first") (.name "_law_place") .val [.loc "_law_others"]]) [.ret (.bool Jd)] [],
  .assign (.name "_law_hidden") (.compIf (.loc "_law_place") (.name "_law_place") .val [.call "_law_all" [.loc "_law_table"]] (.or_ (.cmp .in_ (.loc "_law_place")<|.loc "_law_first")<|.cmp .in_ (.loc "_law_place") (.loc "_law_others"))),
  .if_ (.or_ (.cmp .ne (.comp (.sub (.loc "_law_pair_here")<|.int 0) (.name "_law_pair_here") .val [.loc "_law_pairs"])<|.loc "_law_hidden")<|.and_ (.cmp .eq (.loc "_law_first")<|.list []) (.cmp .ne (.bin .add (.loc "_law_others")<|.loc "_law_roads")<|.list [])) [.ret (.bool Jd)] [],
  .ret (.bi .all [.comp (.call "_law_pair" [.loc "_law_table",.loc "_law_hidden",.loc "_law_pair_here",.loc "_law_width_here"]) (.name "_law_pair_here") .val [.loc "_law_pairs"]])]⟩
noncomputable def fQ:Fn:=⟨"_law_told",["_law_table","_law_bound_here","_law_width_here"],[],
 [.try1 [.ret (.call "hide" [.loc "_law_table",.loc "_law_bound_here",.loc "_law_width_here"])] "NotHidden" [.ret (.none)]]⟩
noncomputable def f_law:Fn:=⟨"law",["_law_script"],["_law_table","_law_bound_here","_law_width_here","_law_handed","_law_paper","_law_kept","_law_tables","_law_again","_law_pair_here"],
 [.assign (.name "_law_table") (.call "_law_drawn" [.loc "_law_script"]),
  .assign (.name "_law_bound_here") (.call "_law_bound" [.loc "_law_script"]),
  .assign (.name "_law_width_here") (.call "_law_width" [.loc "_law_script",.loc "_law_table"]),
  .assign (.name "_law_handed") (.comp (.bi .list [.loc "_law_row"]) (.name "_law_row") .val [.loc "_law_table"]),
  .assign (.name "_law_paper") (.call "_law_told" [.loc "_law_handed",.loc "_law_bound_here",.loc "_law_width_here"]),
  .if_ (.cmp .ne (.loc "_law_handed")<|.loc "_law_table") [.ret (.bool Jd)] [],
  .if_ (.isNone<|.loc "_law_paper") [.ret (.bool Jc)] [],
  .if_ (.not_<|.call "_law_right" [.loc "_law_table",.loc "_law_bound_here",.loc "_law_width_here",.loc "_law_paper"]) [.ret (.bool Jd)] [],
  .assign (.name "_law_kept") (.comp (.bi .list [.loc "_law_part"]) (.name "_law_part") .val [.loc "_law_paper"]),
  .assign (.name "_law_tables") (.comp (.comp (.bi .list [.loc "_law_row"]) (.name "_law_row") .val [.sub (.loc "_law_pair_here") (.int 1)]) (.name "_law_pair_here") .val [.sub (.loc "_law_paper") (.int 2)]),
  .expr (.call "_law_told" [.list [.list [.int 1,.int 2],.list [.int 2,.int 1]],.int 1,.int 1]),
  .assign (.name "_law_again") (.call "_law_told" [.loc "_law_handed",.loc "_law_bound_here",.loc "_law_width_here"]),
  .if_ (.cmp .ne (.loc "_law_again")<|.loc "_law_paper") [.ret (.bool Jd)] [],
  .expr (.meth (.sub (.loc "_law_again")<|.int 0) .append [.tup [.int 9,.int 9]]),
  .for_ (.name "_law_pair_here") .val [.sub (.loc "_law_again") (.int 2)] [.expr (.meth (.sub (.loc "_law_pair_here")<|.int 1) .append [.list [.int 1]]),.if_ (.or_ (.cmp .ne (.bi .len [.sub (.loc "_law_pair_here") (.int 1)])<|.bin .add (.bi .len [.loc "_law_table"]) (.int 1))<|.cmp .ne (.bi .len [.sub (.loc "_law_pair_here") (.int 2)]) (.bi .len [.loc "_law_table"])) [.ret (.bool Jd)] []],
  .if_ (.or_ (.cmp .ne (.comp (.bi .list [.loc "_law_part"]) (.name "_law_part") .val [.loc "_law_paper"])<|.loc "_law_kept")<|.cmp .ne (.comp (.sub (.loc "_law_pair_here")<|.int 1) (.name "_law_pair_here") .val [.sub (.loc "_law_paper") (.int 2)]) (.loc "_law_tables")) [.ret (.bool Jd)] [],
  .ret (.cmp .eq (.call "_law_told" [.loc "_law_handed",.loc "_law_bound_here",.loc "_law_width_here"]) (.loc "_law_paper"))]⟩
def tab0:List Fn:=[iF,fw,jc,l4,eY,eG,ix,fg,gT,fb,eL,iB,fZ,gR,gD,gQ,iI,fO,gU,nq,fP,fR,eM,fW,nk,ng,f__law_mix,e9,f__law_sides,dq,fj,fq,e7,gN,c5,fX,fi,fh,gF,cX,fT,f__law_right,fQ,f_law]
def tab:List Fn:=[iF,fw,jc,l4,eY,eG,ix,fg,gT,fb,eL,iB,fZ,gR,gD,gQ,iI,fO,gU,nq,fP,fR,eM,fW,nk,ng,f__law_mix,e9,f__law_sides,dq,fj,fq,e7,gN,c5,fX,fi,fh,gF,cX,fT,f__law_right,fQ,f_law,dp,eg,cx,f_Bounds_walls,eQ,dj,ew,dY,er]
abbrev G1:Gx:=gxE [("MOST",.int 8),("ROW",.str "row"),("COLUMN",.str "column")] tab0 kinds7
theorem most:G1.glob "MOST"=Ja (.int 8):=rfl
theorem gV(h:Q (.str "row") Jb):dglob Q (G1.glob "ROW"):=h
theorem f9(h:Q (.str "column") Jb):dglob Q (G1.glob "COLUMN"):=h
abbrev Env1(C:Cx)(G:Gx)(m b:Jq->Option Jf):Prop:=EnvD tab C G m b
theorem bu(i:Nat)(h:tab[i]? =Ja t):t∈tab:=Qz h
theorem rg{n:Nat}(h:n<=8): -1000000<(n:Int)/\(n:Int)<=1000000:=⟨Ky (by decide)<|QU n,Kw.mpr<|Qv h (by decide)⟩
section
variable{C:Cx}{mg mb:Jq->Option Jf}{n:Nat}{Q:D->Bool->Prop}{X:DX}
noncomputable def cellF(ns:List Int)(k:Int):Int:=if 0<ns.length then(ns[(k.fmod ns.length).toNat]?.getD 0)+k.fdiv ns.length else 0
def mixF(ns:List Int)(k:Int):Int:=
 let m:=((cellF ns k+7919*(k+1))*48271).fmod 2147483647
 (m*m).fmod 2147483629
theorem eV(e:Env1 C G1 mg mb){ns:List Int}(s:ns.length<=63)(h:Q (.int (mixF ns k)) Jc):aQ (aO C (n+1)) "_law_mix" [(.scr ns,b),(.int k,G)] Q X:=by
 refine e.fn f__law_mix (bu 26 rfl) rfl λl u P PX g=> ?_;dsimp only[f__law_mix];dsimp only[aZ,ch,bt];refine bk ?_;dsimp only[aN,bA,aH,aL,Qa,aM,aB,aA];refine cp ?_
 (dsimp only[aX,bw,aN,bl,ce,jU,aC,aE,ca,aD,aF,Qa,aJ,aB,aA,aK,xO,cN];refine⟨rfl,?_⟩)
 have fin:∀c:Int,c=cellF ns k->dwss G1 l u (f__law_mix.b.drop 2) (Nb "_law_script" b (D.scr ns)<|Nb "_law_k" G (D.int k)<|Nb "_law_cell" Jc (D.int c)<|No "_law_number" Jb<|[]) P PX:=λc Z=>by
  dsimp only[f__law_mix,Yd];refine bk ?_
  (dsimp only[bq,aN,aD,aF,Qa,aJ,aB,aA,aK,bv,dy,k7,cB,bA,aH,aL,aM];refine⟨.inl<|by decide,.inr<|by decide,by decide,?_⟩)
  refine bM ?_;dsimp only[bq,aN,aD,aF,Qa,aA,aB,aK,bv,k7,cB,aH];refine⟨.inl ?_,by decide,?_⟩
  ·have:=eX (a:=(c+7919*(k+1))*48271) (b:=2147483647) (by decide);exact Nat.lt_trans (Int.natAbs_lt_natAbs_of_nonneg_of_lt this.1 this.2)<|by decide
  ·rw[Z];exact g.qr h
 refine cE (λi=> ?_) λi=> ?_
 ·refine bk ?_;have M:=eX (a:=k) (b:=ns.length) i
  (dsimp only[bq,bl,ce,aC,aE,ca,aD,aF,Qa,aJ,aB,aA,aK,xO,cN,bv,eR,aR,cB,gJ];refine⟨rfl,?_⟩)
  refine⟨by exact Int.ne_of_gt i,?_⟩;refine aY (xl M.1 M.2) ?_
  (dsimp only[bv,dy,bA,aH,aL,Qa,aM,aB,aA];refine⟨rfl,?_⟩)
  refine⟨by exact Int.ne_of_gt i,by exact zb1 s rfl,fin _ ?_⟩;rw[cellF,Y8 (by exact Kf.mp i)]
 ·exact fin 0<|by rw[cellF,Y7 (by exact λq=>i<|Kf.mpr q)]
theorem z7(ns:List Int)(k:Int):0<=mixF ns k/\mixF ns k<2147483629:=eX<|by decide
def kX(ns:List Int)(k:Int):Int:=
 let m:=mixF ns k
 let r:=m.fdiv 8
 if m.fmod 8=0 then 0 else [r.fmod 3,r.fmod 5,r.fmod 12,[0,1,2,40][(r.fmod 4).toNat]?.getD 0,r.fmod 1000,r*10^11+r.fmod 7][((mixF ns 2).fmod 6).toNat]?.getD 0
theorem ud(e:Env1 C G1 mg mb){ns:List Int}(s:ns.length<=63)(h:Q (.int (kX ns k)) Jc):aQ (aO C (n+2)) "_law_count" [(.scr ns,b),(.int k,G)] Q X:=by
 refine e.fn e9 (bu 27 rfl) rfl λM u P PX g=> ?_;dsimp only[e9];dsimp only[aZ,ch,bt];refine bk ?_
 (dsimp only[aP,flags,aC,aG,aU,aE,aI,aT,aD,aF,Qa,aJ,aB,aA,aK,bv,aH,br,gJ,bB];refine⟨rfl,?_⟩)
 refine g.hc<|eV e s ?_;dsimp only[aA,bv,bA,aH,aL,Qa,aM,aB];refine bk ?_
 (dsimp only[bq,aN,aD,aF,Qa,aJ,aB,aA,aK,bv,eR,bA,aH,aL,aM];refine⟨by decide,by decide,?_⟩)
 refine cp ?_
 (dsimp only[aX,bw,ej,deq,aN,bq,aD,aF,Qa,aJ,aB,aA,aK,bv,cB,cj];refine⟨by decide,⟨rfl,rfl⟩,?_⟩)
 rw[kX] at h;generalize mixF ns k=m at h ⊢;refine cE (λi=> ?_) λi=> ?_
 ·refine bM ?_;dsimp only[aN,aH];rw[Y8 i] at h;exact g.qr h
 ·refine bk ?_
  (dsimp only[bH,fsts,dnew,aC,aG,aV,aU,aE,aI,aW,aT,bq,aN,aD,aF,Qa,aJ,aB,aA,aK,bv,cB,pE,k7,dy,br,aR];refine⟨by decide,by decide,by decide,by decide,by decide,?_⟩)
  have N:=eX (a:=m.fdiv 8) (b:=4) (by decide);refine aY (show dsub (.list [.int 0,.int 1,.int 2,.int 40]) (.int<|(m.fdiv 8).fmod 4)=_ from gr (l:=[0,1,2,40]) N.1 N.2) ?_
  (dsimp only[bv,br,bA,aH,aL,Qa,aM,aA,aB];refine⟨by decide,by decide,by decide,by decide,.inr<|by decide,by decide,by decide,?_⟩)
  refine bM ?_
  (dsimp only[aR,bq,aN,aP,flags,aC,aG,aU,aE,aI,aT,aH,br,aD,aF,Qa,aB,aA,aK,gJ,bB,bj];refine⟨rfl,?_⟩)
  refine g.hc<|eV e s ?_
  (dsimp only[cB];refine⟨by decide,?_⟩)
  have q:=eX (a:=mixF ns 2) (b:=6) (by decide);rw[show∀a b c d e f:Int,dsub (.list [.int a,.int b,.int c,.int d,.int e,.int f]) (.int<|(mixF ns 2).fmod 6)=_ from λa b c d e f=>gr (l:=[a,b,c,d,e,f]) q.1 q.2];dsimp only[cV,bv,aH];rw[Y7 i] at h;exact g.qr h
theorem uv(ns:List Int)(k:Int):0<=kX ns k:=by
 unfold kX;have U:=(z7 ns k).1;generalize mixF ns k=m at U ⊢;dsimp only
 split
 ·exact QZ 0
 ·have y:0<=m.fdiv 8:=Int.fdiv_nonneg U (by decide);generalize m.fdiv 8=r at y ⊢;generalize ((mixF ns 2).fmod 6).toNat=j;have h:∀b:Int,0<b->0<=r.fmod b:=λb R=>(eX R).1;have w:0<=([0,1,2,40][(r.fmod 4).toNat]?.getD 0:Int):=by
   generalize (r.fmod 4).toNat=i
   match i with
   |0|1|2|3=>decide
   |_+4=>exact QZ 0
  match j with
  |0=>exact h 3<|by decide
  |1=>exact h 5<|by decide
  |2=>exact h 12<|by decide
  |3=>exact w
  |4=>exact h 1000<|by decide
  |5=>exact YA (Int.mul_nonneg y<|by decide)<|h 7 (by decide)
  |_+6=>exact QZ 0
end
section
variable{C:Cx}{mg mb:Jq->Option Jf}{n:Nat}{Q:D->Bool->Prop}{X:DX}
theorem rJ{L:Type}{t:List (List L)}(R:Rect t h w)(g:L->D):dsub (.list (t.map λr=> .list (r.map g))) (.int 0)=Ja (.list ((rowAt t 0).map g)):=iT (j:=0) (by rw[Qu,(R.at_ R.h1).1];rfl)
theorem ux(e:Env1 C G1 mg mb){q:Type}{t:List (List q)}(R:Rect t h w)(g:q->D)(k:Q (.list ((allF h w).map dP)) Jc):aQ (aO C (n+1)) "_law_all" [(.list (t.map λr=> .list (r.map g)),b)] Q X:=by
 refine e.fn gN (bu 33 rfl) rfl λl u P PX F=> ?_;dsimp only[gN];dsimp only[aZ,ch,bt];have U:=R.h8;have d:=R.w8;have s:h*w<=8*8:=Yc U d;refine bk ?_
 (dsimp only[bH,fsts,dnew,aE,aI,aW,aT,bA,aH,aL,Qa,aM,aB,aA];refine⟨by decide,?_⟩)
 refine dG rfl ?_
 (dsimp only[fsts,aC,aG,aU,aE,aI,aT,bl,ce,br,bA,iZ,iP,ca,aD,aF,Qa,aJ,aB,aA,aK,cI,cN];refine⟨rfl,?_⟩)
 rw[Qd,R.len];refine⟨⟨by exact zim _,by exact zip' U⟩,?_⟩;refine eJ (λi L=>∃v c,L=(Nb "_law_table" c (.list<|t.map λr=> .list (r.map g))<|Nb "_law_found" Jc (.list<|(allF i w).map dP)<|No "_law_row" v<|[])) ⟨_,_,rfl⟩ ?_ ?_
 ·rintro j L H ⟨v,c,rfl⟩ K m;dsimp only[b5,aL,Qa,aM,aA,aB,bJ];refine bk ?_;dsimp only[bq,aD,aF,Qa,aB,aA,aK,bj];refine bV rfl ?_
  (dsimp only[fsts,ik,tgl,dnew,aC,aG,aU,aE,aI,aT,bl,ce,br,iZ,iP,ca,aR,aN,aD,aF,Qa,aB,aA,aK];refine⟨rfl,?_⟩)
  refine aY (rJ R g) ?_;dsimp only[cI,cN];rw[Qd,(R.at_ R.h1).2];refine⟨⟨by exact zim _,by exact zip' d⟩,ec (λ(c:Nat)=> .tup [.int j,.int c]) (λc Z K k=> ?_) ?_⟩
  ·dsimp only[bp,cA,b5,aM,Qa,aL,aB,aA,bJ];dsimp only[elD]
   (dsimp only[bS,fsts,dtup,aC,aG,aV,aU,aE,aI,aW,aT,aD,aJ,Qa,aF,aB,aA,aK,bv,br];refine⟨by decide,?_⟩)
   exact k
  ·dsimp only[bB];rw[uV,de _ d3];dsimp only[aA,bA,aH,aL,Qa,aB];refine⟨?_,?_⟩
   ·rw[Qd,jb];refine dM<|Qv (Yc (show j+1<=8 by exact zle H U) d) (by decide)
   ·exact m _ ⟨_,_,rfl⟩
 ·rintro L ⟨v,c,rfl⟩;refine cL ?_;dsimp only[b9,aL,Qa,aM,aB,aA,aF,aJ,aK,bL];exact F.qr k
end
section
variable{C:Cx}{mg mb:Jq->Option Jf}{n:Nat}{Q:D->Bool->Prop}{X:DX}
theorem AU(e:Env1 C G1 mg mb)(R:Rect t h w)(k:Q (dI (csF t w)) Jc):aQ (aO C (n+1)) "_law_column_sums" [(dT t,b)] Q X:=by
 refine e.fn c5 (bu 34 rfl) rfl λl u P PX g=> ?_;dsimp only[c5];dsimp only[aZ,ch,bt];have d:=R.w8;refine bM ?_;refine bV rfl ?_
 (dsimp only[fsts,aC,aG,aU,aE,aI,aT,bl,ce,br,iZ,iP,ca,aR,aN,aD,aF,Qa,aA,aK];refine⟨rfl,?_⟩)
 refine aY (g6 R) ?_;dsimp only[cI,cN];rw[R.len0];refine⟨⟨by exact zim _,by exact zip' d⟩,ec (λ(c:Nat)=> .int ((t.map λr=>r[c]?.getD 0).sum)) (λc Z K k=> ?_) ?_⟩
 ·dsimp only[bp,cA,b5,aM,Qa,aL,aB,aA,bJ];dsimp only[elD]
  (dsimp only[bl,gz,aC,aE,ca];refine⟨rfl,?_⟩)
  refine bV rfl ?_;dsimp only[fsts,dW,aC,aG,aU,aE,aI,aT,ck,aD,aJ,Qa,aF,aA,aB,aK,bj,bB,cw];refine bE dI (λr=> .int (r[c]?.getD 0)) (λr T K k=> ?_) ?_
  ·dsimp only[bp,cA,b5,aM,Qa,aL,aB,aA,bJ];dsimp only[elD];dsimp only[aR,aD,aJ,Qa,aF,aB,aA,aK,bj];refine aY (ky<|by rw[R.row r T];exact Z) ?_;exact k
  ·refine g7 (fx _ _) ?_;exact k
 ·dsimp only[aH];rw[csF,dI,QE] at k;exact g.qr k
theorem yJ(e:Env1 C G1 mg mb)(R:Rect t h w){ps:List (Nat×Nat)}(k:Q (viewF t (hidF ps) h w) Jc):aQ (aO C (n+2)) "_law_view" [(dT t,b),(.list (ps.map dP),G)] Q X:=by
 refine e.fn fX (bu 35 rfl) rfl λl u P PX g=> ?_;dsimp only[fX];dsimp only[aZ,ch,bt];have U:=R.h8;have d:=R.w8;refine bk ?_
 (dsimp only[bH,fsts,dnew,aE,aI,aW,aT,bA,aH,aL,Qa,aM,aB,aA];refine⟨by decide,?_⟩)
 refine dG rfl ?_
 (dsimp only[fsts,aC,aG,aU,aE,aI,aT,bl,ce,br,bA,iZ,iP,ca,aD,aF,Qa,aJ,aB,aA,aK,cI,cN];refine⟨rfl,?_⟩)
 rw[R.lenD];refine⟨⟨by exact zim _,by exact zip' U⟩,?_⟩;refine eJ (λi L=>∃v,L=(Nb "_law_table" b (dT t)<|Nb "_law_places" G (.list<|ps.map dP)<|Nb "_law_cells" Jc (dC<|cellsF t (hidF ps) i w)<|No "_law_row" v<|[])) ⟨_,rfl⟩ ?_ ?_
 ·rintro j L H ⟨v,rfl⟩ K m;dsimp only[b5,aL,Qa,aM,aA,aB,bJ];refine iM ?_
  (dsimp only[aF,Qa,aB,aA,aK,dW,lg,aL];refine⟨trivial,?_⟩)
  refine bV rfl ?_
  (dsimp only[fsts,aC,aG,aU,aE,aI,aT,bl,ce,br,iZ,iP,ca,aR,aN,aD,aF,Qa,aB,aA,aK];refine⟨rfl,?_⟩)
  refine aY (g6 R) ?_;dsimp only[cI,cN];rw[R.len0];refine⟨⟨by exact zim _,by exact zip' d⟩,ec (λ(c:Nat)=>dO<|cellO t (hidF ps) j c) (λc Z K k=> ?_) ?_⟩
  ·dsimp only[bp,cA,b5,aM,Qa,aL,aB,aA,bJ];dsimp only[elD];dsimp only[aR,bl,yy,aC,aE,ca,aX,bw,o8,aD,aJ,Qa,aF,aB,aA,aK,bS,fsts,dtup,aG,aV,aI,aW,bH,dnew,aU,aT,dU,br,bj];refine aY (gL R H) ?_;dsimp only[bj];refine aY (gy R H Z) ?_
   (dsimp only[bv,br];refine⟨by decide,rfl,by decide,?_⟩)
   rw[np];refine⟨⟨rfl,b7 dP (λp=>rfl) ps⟩,?_⟩;change K (dO<|cond (hidF ps j c) Jb (Ja<|cell t j c)) Jb at k;change dOD _ (dsub (.list [.int (cell t j c),.none])<|.int (if hidF ps j c=Jc then 1 else 0))
   revert k
   cases hidF ps j c with
   |true=>exact λk=>k
   |false=>exact λk=>k
  ·refine⟨rfl,rfl,?_,m _ ⟨Ja (.int j,Jc),?_⟩⟩
   ·rw[Qd,cellsF,Qd,QB];exact cS<|by exact zll H<|zb2 U rfl
   ·rw[qe];rfl
 ·rintro L ⟨v,rfl⟩;refine cL ?_;dsimp only[dg,cH,aV,df,aW,lg,b9,aL,Qa,aM,aB,aA,aF,aJ,aK,bL];refine bV rfl ?_;dsimp only[fsts,aC,aG,aU,aE,aI,aT,ck,aD,aF,Qa,aJ,aB,aA,aK,bj,bB,cw];refine bE dI (λr=> .int r.sum) (λr T K k=> ?_) ?_
  ·dsimp only[bp,cA,b5,aM,Qa,aL,aA,aB,bJ];dsimp only[elD]
   (dsimp only[bl,gz,aC,aE,ca,aD,aJ,Qa,aF,aA,aB,aK,dW];refine⟨rfl,?_⟩)
   refine g7 (fB _) ?_;exact k
  ·refine⟨rfl,?_⟩;refine uA ?_
   (dsimp only[aP,flags,aC,aG,aU,aE,aI,aT,aD,aF,Qa,aJ,aB,aA,aK,bj,aS,bB,cb,bI];refine⟨rfl,?_⟩)
   refine g.hc<|AU e R ?_
   (dsimp only[aA,bj];refine⟨rfl,by decide,?_⟩)
   rw[viewF,rsF,dI,QE] at k;exact g.qr k
end
section
variable{C:Cx}{mg mb:Jq->Option Jf}{n:Nat}{Q:D->Bool->Prop}{X:DX}
theorem ig(e:Env1 C G1 mg mb)(k:Q (.bool (decide (i>=0))) Jc):aQ (aO C (n+1)) "is_count" [(.int i,b)] Q X:=by
 refine e.fn eG (bu 5 rfl) rfl λc u P PX g=> ?_;dsimp only[eG];dsimp only[aZ,ch,bt];refine bM ?_
 (dsimp only[c6,aX,aH,aN,aD,aF,Qa,aA,aK,oL,bW,bw,c8,xY,h9,lr,xW];refine⟨rfl,rfl,?_⟩)
 exact g.qr k
theorem zV(e:Env1 C G1 mg mb)(k:Q (.bool (gridF l)) Jc):aQ (aO C (n+1)) "is_grid" [(dL l,b)] Q X:=by
 refine e.fn ix (bu 6 rfl) rfl λc u P PX g=> ?_;dsimp only[ix];dsimp only[aZ,ch,bt];unfold gridF at k;refine cp ?_
 (dsimp only[cq,bw,aA,bW,jp,cf,lr,bl,ce,aC,aE,ca,aD,aF,Qa,aK,cI,cN,aN,lf,c8,lh,h9,cy,aB];refine⟨rfl,rfl,?_⟩)
 dsimp only[most];dsimp only[A0,lf];rw[Qd];have no:¬ (1<=l.length/\l.length<=8)->Q (.bool Jd) Jc:=λh=>by rw[Y5 h] at k;exact k
 refine cE (λN=> ?_) λN=> ?_
 ·refine j7 (λp=> ?_) λp=> ?_
  ·have T:1<=l.length/\l.length<=8:=by exact⟨Kw.mp N,Kw.mp p⟩
   rw[Y4 T,WP] at k;clear no;have W:l[0]? =Ja (rowAt l 0):=by rw[rowAt,Qg (by exact Kw.mp N)];rfl
   have s:dsub (dL l) (.int 0)=Ja (.list<|rowAt l 0):=iT (j:=0) (by rw[Qu,W];rfl);refine cp ?_
   (dsimp only[cq,bw,aA,bW,jp,cf,lr,bl,ce,aC,aE,ca,aR,aN,aD,aF,Qa,aK,lf,hJ];refine⟨rfl,?_⟩)
   refine bV rfl ?_;dsimp only[fsts,dW,aC,aG,aU,aE,aI,aT,ck,aD,aF,Qa,aA,aK,bj,bB,cw];refine bE D.list (λo0=> .bool Jc) (λr f K k=> ?_) ?_
   ·dsimp only[bp,cA,b5,aM,Qa,aL,aB,aA,bJ];dsimp only[elD]
    (dsimp only[c8,aD,aJ,Qa,aF,aB,aA,aK,lh,h9];refine⟨rfl,?_⟩)
    exact k
   ·refine jt (c4 _ _) ?_;rw[show(Kt (λo0=>Jc) l).all id=Jc from by rw[iX];exact Qx.mpr λo0 o0=>rfl]
    (dsimp only[cy,aB];refine⟨rfl,?_⟩)
    refine aY s ?_;dsimp only[cI,cN];dsimp only[most];dsimp only[A0,lf];have no:¬ (1<=(rowAt l 0).length/\(rowAt l 0).length<=8)->Q (.bool Jd) Jc:=λh=>by rw[Y5 h] at k;exact k
    refine cE (λN=> ?_) λN=> ?_
    ·refine j7 (λp=> ?_) λp=> ?_
     ·rw[Y4 (by exact⟨Kw.mp N,Kw.mp p⟩),WP] at k;refine bM ?_
      (dsimp only[bl,hJ,aH,aC,aE,ca];refine⟨rfl,?_⟩)
      refine bV rfl ?_;dsimp only[fsts,dW,aC,aG,aU,aE,aI,aT,ck,aD,aF,Qa,aA,aK,bj,bB,cw];refine bE D.list (λr=> .bool (decide<|r.length=(rowAt l 0).length)) (λr f K k=> ?_) ?_
      ·dsimp only[bp,cA,b5,aM,Qa,aL,aB,aA,bJ];dsimp only[elD]
       (dsimp only[aX,ej,deq,bl,ce,aC,aE,ca,aR,aN,aD,aJ,Qa,aF,aA,aB,aK,cj,cI,cN];refine⟨rfl,rfl,?_⟩)
       refine aY s ?_
       (dsimp only[cI,cN];refine⟨⟨rfl,rfl⟩,?_⟩)
       rw[show decide ((r.length:Int)=((rowAt l 0).length:Int))=decide (r.length=(rowAt l 0).length) from decide_eq_decide.mpr (by exact Wp)];exact k
      ·refine jt (c4 _ _) ?_;rw[iX];exact g.qr k
     ·refine bM ?_;dsimp only[cD,aH];exact g.qr<|no (by exact λq=>p<|Kw.mpr q.2)
    ·refine bM ?_;dsimp only[cD,aH];exact g.qr<|no (by exact λq=>N<|Kw.mpr q.1)
  ·refine bM ?_;dsimp only[cD,aH];exact g.qr<|no (by exact λq=>p<|Kw.mpr q.2)
 ·refine bM ?_;dsimp only[cD,aH];exact g.qr<|no (by exact λq=>N<|Kw.mpr q.1)
theorem rj(e:Env1 C G1 mg mb)(R:Rect t h w)(k:Q (.bool Jc) Jc):aQ (aO C (n+1)) "is_grid" [(dC t,b)] Q X:=by
 rw[BB];exact zV e<|by rw[R.grid];exact k
def NN(t:List (List Int)):Prop:=∀r∈t,∀i∈r,0<=i
end
section
variable{C:Cx}{mg mb:Jq->Option Jf}{n:Nat}{Q:D->Bool->Prop}{X:DX}
theorem kK(e:Env1 C G1 mg mb)(R:Rect t h w)(k:Q (.list ((allF h w).map dP)) Jc):aQ (aO C (n+1)) "places_of" [(dC t,b)] Q X:=by
 refine e.fn fZ (bu 12 rfl) rfl λl f P PX g=> ?_;dsimp only[fZ];dsimp only[aZ,ch,bt];have U:=R.h8;have d:=R.w8;refine bk ?_
 (dsimp only[bH,fsts,dnew,aE,aI,aW,aT,bA,aH,aL,Qa,aM,aB,aA];refine⟨by decide,?_⟩)
 refine dG rfl ?_
 (dsimp only[fsts,aC,aG,aU,aE,aI,aT,bl,ce,br,bA,iZ,iP,ca,aD,aF,Qa,aJ,aB,aA,aK,cI,cN];refine⟨rfl,?_⟩)
 rw[Qd,R.len];refine⟨⟨by exact zim _,by exact zip' U⟩,?_⟩;refine eJ (λi L=>∃u v,L=(Nb "grid" b (dC t)<|Nb "found" Jc (.list<|(allF i w).map dP)<|No "row" u<|No "column" v<|[])) ⟨_,_,rfl⟩ ?_ ?_
 ·rintro j L H ⟨u,v,rfl⟩ K m;dsimp only[b5,aL,Qa,aM,aB,aA,bJ];refine dG rfl ?_
  (dsimp only[fsts,aC,aG,aU,aE,aI,aT,bl,ce,br,bA,iZ,iP,ca,aR,aN,aD,aF,Qa,aJ,aB,aA,aK];refine⟨rfl,?_⟩)
  refine aY (lP R) ?_;dsimp only[cI,cN];rw[Qd,(R.at_ R.h1).2];refine⟨⟨by exact zim _,by exact zip' d⟩,?_⟩;refine eJ (λi L=>∃v,L=(Nb "grid" b (dC t)<|Nb "found" Jc (.list<|(allF j w++(Qc i).map λc=>(j,c)).map dP)<|Nb "row" Jc (.int j)<|No "column" v<|[])) ⟨v,by rw[List.range_zero,Wj,QH]⟩ ?_ ?_
  ·rintro i L V ⟨v,rfl⟩ K m;dsimp only[b5,aL,Qa,aM,aA,aB,bJ];refine iM ?_
   (dsimp only[aF,Qa,aB,aA,aK,dW,dg,cH,aV,df,aW,b9,aL,cM];refine⟨trivial,by decide,rfl,?_⟩)
   refine⟨?_,m _ ⟨Ja (.int i,Jc),?_⟩⟩
   ·rw[Qd,QG,jb,Qd,QB];have:=Yc (show j<=8 by exact Kv<|zll H U) d;exact cS<|by exact zb1 (Kh this<|Kv (zll V d)) rfl
   ·rw[<-gP,<-Kn,QD (l₂:=[(j,i)])];rfl
  ·rintro L ⟨v,rfl⟩;exact m _ ⟨_,_,rfl⟩
 ·rintro L ⟨u,v,rfl⟩;refine cL ?_;dsimp only[b9,aL,Qa,aM,aB,aA,aF,aJ,aK,bL];exact g.qr k
theorem qo(e:Env1 C G1 mg mb)(R:Rect c h w){r s:List Int}(z:r.length=h)(E:s.length=w)(k:Q (.tup [dI ((Qc h).map (r1F c r)),dI ((Qc w).map (r2F c s))]) Jc):
  aQ (aO C<|n+1) "rests_of" [(.tup [dC c,dI r,dI s],b)] Q X:=by
 refine e.fn gD (bu 14 rfl) rfl λl u P PX g=> ?_;dsimp only[gD];dsimp only[aZ,ch,bt];have U:=R.h8;have d:=R.w8;refine dt rfl ?_;dsimp only[aD,aF,Qa,aJ,aB,aA,aK,b6,tgl,bC,bL,bD,bK,aS,fM,fH,fG,fK,gO,gn,fF,cP,fN,fJ,vV,aL,aM,bJ];refine bk ?_;refine bV rfl ?_
 (dsimp only[fsts,aC,aG,aU,aE,aI,aT,bl,ce,br,iZ,iP,ca,aD,aF,Qa,aJ,aB,aA,aK,cI,cN];refine⟨rfl,?_⟩)
 rw[Qd,z];refine⟨⟨by exact zim _,by exact zip' U⟩,ec (λk=> .int (r1F c r k)) (λi V K k=> ?_) ?_⟩
 ·dsimp only[bp,cA,b5,aM,Qa,aL,aA,aB,bJ];dsimp only[elD];dsimp only[bq,bl,gz,aC,aE,ca,aR,aD,aJ,Qa,aF,aA,aB,aK,bj];refine aY (ky<|by exact zq V z.symm) ?_
  (dsimp only[bv,gX];refine⟨rfl,?_⟩)
  refine cF rfl ?_;dsimp only[fsts,dW,aC,aG,aU,aE,aI,aT,ck,aR,aD,aJ,Qa,aF,aA,aB,aK,bj];refine aY (hW R V) ?_;dsimp only[cw,bj,bB];refine cg dO dO (λo=>o.isSome) (λo a=> ?_) ?_
  ·dsimp only[bp,cA,b5,aM,Qa,aL,aB,aA,bJ];refine⟨λT Y=> ?_,λo0 K k=> ?_⟩
   ·dsimp only[tstD];dsimp only[cW,bw,aD,aJ,Qa,aF,aB,aA,aK];refine⟨(gm o).1,?_⟩;rw[(gm o).2,Bool.not_not];exact Y
   ·dsimp only[elD];dsimp only[aD,aJ,Qa,aF,aB,aA,aK];rw[show tg0 (dO o) (Ja ["count"])=Jb from by rcases o with⟨⟩<;>rfl];exact k
  ·rw[show((rowAt c i).filter λo=>o.isSome).map dO=((rowAt c i).filter λo=>(id o).isSome).map (λo=>dO<|id o) from rfl,lY];exact k
 ·dsimp only[bA,aH,aL,Qa,aM,aB,aA];refine bk ?_
  (dsimp only[bH,fsts,dnew,aE,aI,aW,aT,bA,aH,aL,Qa,aM,aB,aA];refine⟨by decide,?_⟩)
  refine dG rfl ?_
  (dsimp only[fsts,aC,aG,aU,aE,aI,aT,bl,ce,br,bA,iZ,iP,ca,aD,aF,Qa,aJ,aB,aA,aK,cI,cN];refine⟨rfl,?_⟩)
  rw[Qd,E];refine⟨⟨by exact zim _,by exact zip' d⟩,?_⟩;refine eJ (λi L=>∃v,L=(Nb "view" Jd (.tup [dC c,dI r,dI s])<|Nb "cells" Jd (dC c)<|Nb "rows" Jd (dI r)<|Nb "columns" Jd (dI s)<|Nb "found" Jc (.list<|(Qc h).map λk=> .int (r1F c r k))<|Nb "others" Jc (dI<|(Qc i).map (r2F c s))<|No "k" v<|[])) ⟨_,rfl⟩ ?_ ?_
  ·rintro j L H ⟨v,rfl⟩ K m;dsimp only[b5,aL,Qa,aM,aA,aB,bJ];refine iM ?_
   (dsimp only[aF,Qa,aB,aA,aK,dW,oF,aL,bq,bl,gz,aC,aE,ca,aR,aD,bj];refine⟨trivial,?_⟩)
   refine aY (ky<|by exact zq H E.symm) ?_
   (dsimp only[bv,gX];refine⟨rfl,?_⟩)
   refine cF rfl ?_;dsimp only[fsts,dW,aC,aG,aU,aE,aI,aT,ck,aD,aF,Qa,aB,aA,aK,bj,bB,cw];refine cg dR (λZ=>dO<|Z[j]?.getD Jb) (λZ=>(Z[j]?.getD Jb).isSome) (λZ f=> ?_) ?_
   ·dsimp only[bp,cA,b5,aM,Qa,aL,aB,aA,bJ];refine⟨λT Y=> ?_,λo0 K k=> ?_⟩
    ·dsimp only[tstD];dsimp only[cW,bw,aR,aD,aJ,Qa,aF,aA,aB,aK];refine aY (nj<|by rw[R.row Z f];exact H) ?_;refine⟨(gm _).1,?_⟩;rw[(gm _).2,Bool.not_not];exact Y
    ·dsimp only[elD];dsimp only[aR,aD,aJ,Qa,aF,aA,aB,aK,bj];refine aY (nj<|by rw[R.row Z f];exact H) ?_;rw[show∀o t,tg0 (dO o) t=Jb from λo t=>by rcases o with⟨⟩<;>rfl];exact k
   ·refine g7 (lY _ _) ?_;refine⟨rfl,rfl,?_⟩;refine⟨?_,m _ ⟨Ja (.int j,Jc),?_⟩⟩
    ·rw[Qd,Qd,QB];exact cS<|by exact zll H<|zb2 d rfl
    ·rw[<-gP,wx];rfl
  ·rintro L ⟨v,rfl⟩;refine cL ?_
   (dsimp only[dg,cH,aV,df,aW,b9,aL,Qa,aM,aB,aA,aF,aJ,aK,bL];refine⟨by decide,?_⟩)
   rw[dI,QE] at k;exact g.qr k
end
structure VOK(c:List (List (Option Int)))(r s:List Int)(h w:Nat):Prop where
 R:Rect c h w
 hr:r.length=h
 hs:s.length=w
 nc:∀row∈c,∀i,Ja i∈row->0<=i
 nr:∀i∈r,0<=i
 ns:∀i∈s,0<=i
 n1:∀k,k<h->0<=r1F c r k
 n2:∀k,k<w->0<=r2F c s k
 eq:((Qc h).map (r1F c r)).sum=((Qc w).map (r2F c s)).sum
theorem ro{f:Nat->Int}(N:1<=n)(h:∀k,k<n->0<=f k):(Qc n).map f≠ []/\0<=lmin ((Qc n).map f):=by
 have U:(Qc n).map f≠ []:=by
  intro q;have:=Ub YC q;rw[Qd,QB,WA] at this;exact KQ N this
 refine⟨U,?_⟩;obtain⟨a,T,e⟩:=Ql.mp (iE U).1;rw[<-e];exact h a<|Qi.mp T
section
variable{C:Cx}{mg mb:Jq->Option Jf}{n:Nat}{Q:D->Bool->Prop}{X:DX}
theorem lV(e:Env1 C G1 mg mb){l:List Int}(T:l.length=m)(o:∀i∈l,0<=i)(k:Q (.bool Jc) Jc):aQ (aO C (n+2)) "are_sums" [(dI l,b),(.int m,c)] Q X:=by
 refine e.fn gQ (bu 15 rfl) rfl λM u P PX g=> ?_;dsimp only[gQ];dsimp only[aZ,ch,bt];refine bM ?_
 (dsimp only[c6,bl,hJ,aH,aC,aE,ca,aX,bw,ej,deq,aD,aF,Qa,aA,aB,aK,ce,cj,cI,cN,c8,lh,h9];refine⟨rfl,rfl,⟨rfl,rfl⟩,?_⟩)
 rw[Qd,T,Y4 rfl]
 (dsimp only[aA];refine⟨rfl,?_⟩)
 refine bV rfl ?_;dsimp only[fsts,dW,aC,aG,aU,aE,aI,aT,ck,aD,aF,Qa,aB,aA,aK,bj,bB,cw];refine bE D.int (λi=> .bool (decide<|i>=0)) (λi h K k=> ?_) ?_
 ·dsimp only[bp,cA,b5,aM,Qa,aL,aB,aA,bJ];dsimp only[elD]
  (dsimp only[aP,flags,aC,aG,aU,aE,aI,aT,aD,aJ,Qa,aF,aB,aA,aK,bv,aH,br,bB];refine⟨rfl,?_⟩)
  exact g.hc<|ig e k
 ·refine jt (c4 _ _) ?_;rw[iX,Qx.mpr λi h=>Y4 (o i h)];exact g.qr k
theorem um(e:Env1 C G1 mg mb)(V:VOK c r s h w)(k:Q (.bool Jc) Jc):aQ (aO C (n+3)) "is_view" [(.tup [dC c,dI r,dI s],b)] Q X:=by
 refine e.fn iI (bu 16 rfl) rfl λl u P PX g=> ?_;dsimp only[iI];dsimp only[aZ,ch,bt];refine cp ?_
 (dsimp only[cq,bw,aA,bW,aP,flags,aC,aG,aE,aI,aR,aN,aD,aF,Qa,aJ,aB,aK,b6,tgl,bC,bL,bD,bK,fC,cV,bj,aS,aX,eD,deq,bl,ce,cj,ca,lT,aV,aW,cN,c8,lm,h9,cy];refine⟨rfl,rfl,⟨rfl,rfl⟩,?_⟩)
 refine j7 (λo0=> ?_) λh=>absurd rfl h;refine⟨rfl,?_⟩;refine g.hc<|rj e V.R ?_;dsimp only[bw,cy,aB];refine dG rfl ?_;dsimp only[fsts,aC,aG,aU,aE,aI,aT,ck,aR,aN,aD,aF,Qa,aJ,aB,aA,aK,b6,tgl,bC,bL,bD,bK,fC,cV,bj,bB,fM,fH,fG,fK,gO,gn,fF,cP,fN,fJ,cw];refine cK dR (λo0 L=>∃v,L=(Nb "thing" Jd (.tup [dC c,dI r,dI s])<|No "row" v<|No "rows" Jb<|No "columns" Jb<|[])) _ _ ⟨_,rfl⟩ ?_ ?_
 ·rintro j Z L f ⟨v,rfl⟩ K d;have f:Z∈c:=Qz f;dsimp only[bL,b5,aL,Qa,aM,aB,aA,bJ];refine cp ?_
  (dsimp only[bW,bw,bl,hJ,aC,aE,ca];refine⟨rfl,?_⟩)
  refine bV rfl ?_;dsimp only[fsts,dW,aC,aG,aU,aE,aI,aT,ck,aD,aF,Qa,aJ,aB,aA,aK,bj,bB,cw];refine bE dO (λo0=> .bool Jc) (λo T K k=> ?_) ?_
  ·dsimp only[bp,cA,b5,aM,Qa,aL,aB,aA,bJ];dsimp only[elD];dsimp only[cq,aP,flags,aC,aG,aU,aE,aI,aT,aD,aJ,Qa,aF,aB,aA,aK,dw,bw];refine⟨(gm o).1,?_⟩;rw[(gm o).2]
   induction o with
   |none=>exact k
   |some i=>
    refine⟨rfl,?_⟩;refine g.hc<|ig e ?_;rw[Y4 (V.nc Z f i T)];exact k
  ·refine jt (c4 _ _) ?_;rw[iX,Qx.mpr λo0 o0=>rfl];dsimp only[cy,aB];exact d _ ⟨_,rfl⟩
 ·rintro L ⟨v,rfl⟩;refine f7 ?_;refine cp ?_
  (dsimp only[cq,bw,aA,bW,aP,flags,aC,aG,aE,aI,bl,ce,aH,ca,aR,aN,aD,aF,Qa,aJ,aB,aK,fC,cV,b6,tgl,bC,bL,bD,bK,kA,bj,aS,cI,cN,li];refine⟨rfl,rfl,?_⟩)
  rw[Qd,V.R.len];refine g.hc<|lV e V.hr V.nr ?_
  (dsimp only[bw,cy,aB];refine⟨rfl,rfl,?_⟩)
  refine aY (lP V.R) ?_;dsimp only[cI,cN];rw[Qd,(V.R.at_ V.R.h1).2];refine g.hc<|lV e V.hs V.ns ?_;dsimp only[bw,cy,aB];refine dt rfl ?_
  (dsimp only[aP,flags,aC,aG,aU,aE,aI,aT,aD,aF,Qa,aJ,aB,aA,aK,b6,tgl,bC,bL,bD,bK,aS,bB,cb,bI];refine⟨rfl,?_⟩)
  refine g.hc<|qo e V.R V.hr V.hs ?_;dsimp only[aA,b6,tgl,bC,bL,bD,bK,aB,aH,bA,f6,aL,Qa,aM,bJ];refine bM ?_
  (dsimp only[c6,aX,aH,ej,deq,bl,gz,aC,aE,ca,aD,aF,Qa,aJ,aA,aB,aK,dW,cj,bw,aN,nC,xc,oL];refine⟨rfl,?_⟩)
  rw[fB,fB];dsimp only[AI];have m:=ro V.R.h1 V.n1;have F:=ro V.R.w1 V.n2;refine⟨m.1,?_⟩;rw[Y4 (show lmin ((Qc h).map (r1F c r))>=0 from m.2)]
  (dsimp only[aA];refine⟨rfl,?_⟩)
  refine⟨F.1,?_⟩;rw[Y4 (show lmin ((Qc w).map (r2F c s))>=0 from F.2)]
  (dsimp only[aA];refine⟨rfl,rfl,⟨rfl,rfl⟩,?_⟩)
  rw[Y4 V.eq];exact g.qr k
theorem pt(e:Env1 C G1 mg mb)(V:VOK c r s h w)(k:Q .none Jc):aQ (aO C (n+4)) "need_view" [(.tup [dC c,dI r,dI s],b)] Q X:=by
 refine e.fn fO (bu 17 rfl) rfl λl u P PX g=> ?_;dsimp only[fO];dsimp only[aZ,ch,bt];refine cp ?_
 (dsimp only[bW,bw,aP,flags,aC,aG,aE,aI,aD,aF,Qa,aA,aK,b6,tgl,bC,bL,bD,bK,aB,aS];refine⟨rfl,?_⟩)
 refine g.hc<|um e V ?_;dsimp only[bw,cy,aB];exact g.qn k
end
theorem jx{L:Type}{f:L->Int}{l:List L}(h:∀a∈l,0<=f a):0<=(l.map f).sum:=by
 induction l with
 |nil=>exact QZ 0
 |cons a l i=>rw[Qq,QY];exact YA (h a (.head _)) (i λb R=>h b (.tail _ R))
theorem nE{L:Type}(f g:L->Int)(l:List L):(l.map f).sum-(l.map g).sum=(l.map λa=>f a-g a).sum:=by
 induction l with
 |nil=>rfl
 |cons a l i=>rw[Qq,Qq,Qq,QY,QY,QY,<-i];exact zr14 _ _ _ _
theorem iz{L:Type}(f g:L->Int)(l:List L):(l.map f).sum+(l.map g).sum=(l.map λa=>f a+g a).sum:=by
 induction l with
 |nil=>rfl
 |cons a l i=>rw[Qq,Qq,Qq,QY,QY,QY,<-i];exact zr8 _ _ _ _
theorem mG{L:Type}(g:L->Option Int)(l:List L):(l.filterMap g).sum=(l.map λa=>(g a).getD 0).sum:=by
 induction l with
 |nil=>rfl
 |cons a l W=>
  induction h:g a with
  |none=>rw[List.filterMap_cons_none h,Qq,QY,h,W];exact(Wi _).symm
  |some i=>rw[List.filterMap_cons_some h,Qq,QY,QY,h,W];rfl
theorem ic{L:Type}(l:List L):(l.map λo0=>(0:Int)).sum=0:=by
 induction l with
 |nil=>rfl
 |cons a l i=>rw[Qq,QY,i];rfl
theorem pc(f:Nat->Nat->Int)(h w:Nat):((Qc h).map λr=>((Qc w).map λc=>f r c).sum).sum=((Qc w).map λc=>((Qc h).map λr=>f r c).sum).sum:=by
 induction h with
 |zero=>exact(ic _).symm
 |succ h i=>
  rw[List.range_succ,QD,WW,i];have:(λc=>((Qc h++[h]).map λr=>f r c).sum)=λc=>((Qc h).map λr=>f r c).sum+f h c:=by
   funext c;rw[QD,WW];show _+(f h c+0)=_;rw[Ka]
  rw[this,<-iz];show _+(((Qc w).map λc=>f h c).sum+0)=_;rw[Ka]
theorem zc(R:Rect t h w)(n:r<h):rowAt t r=(Qc w).map (cell t r):=by
 have l:=(R.at_ n).2;refine WM (by rw[l,Qd,QB]) λi N p=> ?_;rw[Wt,Wc,cell,Qg N];rfl
theorem pI{L:Type}{t:List (List L)}(R:Rect t h w):t=(Qc h).map (rowAt t):=by
 refine WM (by rw[R.len,Qd,QB]) λi N p=> ?_;rw[Wt,Wc,rowAt,Qg N];rfl
theorem Rect.range{L:Type}(f:Nat->Nat->L)(N:1<=h)(y:h<=8)(A:1<=w)(T:w<=8):Rect ((Qc h).map λr=>(Qc w).map λc=>f r c) h w:=by
 refine⟨by rw[Qd,QB],λr n=> ?_,N,y,A,T⟩;obtain⟨i,o0,rfl⟩:=Ql.mp n;rw[Qd,QB]
theorem hY{L:Type}(f:Nat->List L)(n:r<h):rowAt ((Qc h).map f) r=f r:=by
 rw[rowAt,Qu,Wu n];rfl
theorem gv{L:Type}(f:Nat->L)(h:c<w)(d:L):((Qc w).map f)[c]?.getD d=f c:=by
 rw[Qu,Wu h];rfl
def hv(t:List (List Int))(h:Nat->Nat->Bool)(r c:Nat):Int:=cond (h r c) (cell t r c) 0
theorem xU(t:List (List Int))(h:Nat->Nat->Bool)(r c:Nat):cell t r c-(cellO t h r c).getD 0=hv t h r c:=by
 unfold cellO hv;cases h r c with
 |true=>exact WJ _
 |false=>exact Yx _
theorem uN(R:Rect t h w)(i:Nat->Nat->Bool)(q:k<h):r1F (cellsF t i h w) (rsF t) k=((Qc w).map λc=>hv t i k c).sum:=by
 rw[r1F,rsF,Qu,(R.at_ q).1,cellsF,hY _ q];show(rowAt t k).sum-_=_;rw[zc R q,List.filterMap_map,mG,nE]
 congr 2
 funext c;exact xU t i k c
theorem s9{t:List (List Int)}{h w:Nat}(R:Rect t h w)(i:Nat->Nat->Bool){k:Nat}(q:k<w):r2F (cellsF t i h w) (csF t w) k=((Qc h).map λr=>hv t i r k).sum:=by
 rw[r2F,csF,gv _ q,cellsF,List.filterMap_map,mG];have e:(t.map λr=>r[k]?.getD 0).sum=((Qc h).map λr=>cell t r k).sum:=by
  conv=>lhs;rw[pI R]
  rw[QE];rfl
 rw[e,nE]
 congr 1
 refine Qj λr n=> ?_;show cell t r k-(((Qc w).map λc=>cellO t i r c)[k]?.getD Jb).getD 0=_;rw[gv _ q];exact xU t i r k
theorem ya(R:Rect t h w)(N:NN t)(i:Nat->Nat->Bool)(n:r<h)(C:c<w):0<=hv t i r c:=by
 unfold hv;cases i r c with
 |true=>exact(jy R).mp N r c n C
 |false=>exact QZ 0
theorem vok(R:Rect t h w)(N:NN t)(d:Nat->Nat->Bool):VOK (cellsF t d h w) (rsF t) (csF t w) h w:=by
 refine⟨Rect.range _ R.h1 R.h8 R.w1 R.w8,by rw[rsF,Qd];exact R.len,by rw[csF,Qd,QB],λZ o i V=> ?_,λi V=> ?_,λi V=> ?_,λk q=> ?_,λk q=> ?_,?_⟩
 ·obtain⟨r,n,rfl⟩:=Ql.mp o;obtain⟨c,C,e⟩:=Ql.mp V;unfold cellO at e
  induction U:d r c with
  |true=>rw[U] at e;exact ns e
  |false=>rw[U] at e;obtain rfl:=sj e;exact(jy R).mp N r c (Qi.mp n) (Qi.mp C)
 ·obtain⟨r,n,rfl⟩:=Ql.mp V;have:=jx (f:=id) (l:=r) λa T=>N r n a T
  rwa [List.map_id] at this
 ·obtain⟨c,C,rfl⟩:=Ql.mp V;refine jx λr n=> ?_;refine N r n _ ?_;rw[Qg (by rw[R.row r n];exact Qi.mp C)];exact KX _
 ·rw[uN R d q];exact jx λc C=>ya R N d q<|Qi.mp C
 ·rw[s9 R d q];exact jx λr n=>ya R N d (Qi.mp n) q
 ·rw[Qj λk q=>uN R d<|Qi.mp q,Qj λk q=>s9 R d (Qi.mp q)];exact pc _ h w
noncomputable def okO(o:Option Int)(i:Int):Bool:= !(o.isSome&& !decide (o.getD 0=i))
def cO(c:List (List (Option Int)))(a b:Nat):Option Int:=(rowAt c a)[b]?.getD Jb
section
variable{C:Cx}{mg mb:Jq->Option Jf}{n:Nat}{Q:D->Bool->Prop}{X:DX}
theorem mX(e:Env1 C G1 mg mb)(k:Q (.bool Jc) Jc):aQ (aO C (n+1)) "_law_whole" [(.int i,b)] Q X:=by
 refine e.fn fh (bu 37 rfl) rfl λc u P PX g=> ?_;dsimp only[fh];dsimp only[aZ,ch,bt];refine bM ?_
 (dsimp only[c6,bW,aH,c8,bw,aD,aF,Qa,aA,aK,xY,h9,lr,xW];refine⟨rfl,rfl,?_⟩)
 exact g.qr k
theorem tP(e:Env1 C G1 mg mb)(T:Rect t h w)(N:NN t)(R:Rect c h w)(M:∀a b,a<h->b<w->okO (cO c a b) (cell t a b)=Jc)(A:rsF t=r)(V:csF t w=s)(k:Q (.bool Jc) Jc):
  aQ (aO C<|n+2) "_law_has" [(dT t,b),(.tup [dC c,dI r,dI s],G)] Q X:=by
 refine e.fn gF (bu 38 rfl) rfl λcl cu PQ PX g=> ?_;dsimp only[gF];dsimp only[aZ,ch,bt];refine cp ?_
 (dsimp only[cq,bw,aA,aX,eD,deq,bl,ce,aC,aE,ca,aR,aN,aD,aF,Qa,aJ,aB,aK,fC,cV,cI,cN,cj,bW,c8,lh,h9,cy];refine⟨rfl,rfl,rfl,⟨rfl,rfl⟩,?_⟩)
 rw[Qd,Qd,T.len,R.len,Y4 rfl];dsimp only[cy,aB];refine f7 ?_;refine dG rfl ?_;dsimp only[fsts,aC,aG,aU,aE,aI,aT,aR,aN,aD,aF,Qa,aJ,aB,aA,aK,b6,tgl,bC,bL,bD,bK,fC,cV,bj,bB,cb,dl,bI,fM,fH,fG,fF,fK,gO,gn,cP,fN,fJ,Bk];rw[zL];refine cK (λp:List Int×List (Option Int)=> .tup [dI p.1,dR p.2]) (λo0 q=>X4 λu v x y=>q=(Nb "_law_table" Jd (dT t)<|Nb "_law_view_here" Jd (.tup [dC c,dI r,dI s])<|No "_law_row" u<|No "_law_cells" v<|No "_law_count_here" x<|No "_law_cell" y<|[])) _ _ ⟨_,_,_,_,rfl⟩ ?_ ?_
 ·rintro a ⟨O,I⟩ q S ⟨u,v,x,y,rfl⟩ K d;obtain⟨L,W⟩:=WT.mp S;have l:=T.row O<|Qz L;have f:=R.row I<|Qz W;have Y:a<h:=T.len▸(QC.mp L).1;have m:=N O<|Qz L;dsimp only[gO,bC,bL,bD,bK,f6,aL,Qa,aM,aB,aA,bJ];refine cp ?_
  (dsimp only[cq,bw,aA,aX,eD,deq,bl,ce,aC,aE,ca,aD,aF,Qa,aJ,aB,aK,cI,cN,cj,bW,c8,lh,h9,cy];refine⟨rfl,rfl,rfl,⟨rfl,rfl⟩,?_⟩)
  rw[Qd,Qd,l,f,Y4 rfl];dsimp only[cy,aB];refine f7 ?_;refine dG rfl ?_;dsimp only[fsts,aC,aG,aU,aE,aI,aT,aD,aF,Qa,aJ,aB,aA,aK,bj,bB,cb,dl,bI,fM,fH,fG,fF,bL,bK,gO,bC,bD,fK,gn,fN,fJ,Bk];rw[y0];refine cK (λp:Int×Option Int=> .tup [.int p.1,dO p.2]) (λo0 q=>∃x y,q=(Nb "_law_table" Jd (dT t)<|Nb "_law_view_here" Jd (.tup [dC c,dI r,dI s])<|Nb "_law_row" Jd (dI O)<|Nb "_law_cells" Jd (dR I)<|No "_law_count_here" x<|No "_law_cell" y<|[])) _ _ ⟨_,_,rfl⟩ ?_ ?_
  ·rintro b ⟨i,o⟩ q z ⟨x,y,rfl⟩ K F;obtain⟨H,J⟩:=WT.mp z;have E:b<w:=l▸(QC.mp H).1;have B:cell t a b=i:=by rw[cell,rowAt,L];show O[b]?.getD 0=i;rw[H];rfl
   have Z:cO c a b=o:=by rw[cO,rowAt,W];show I[b]?.getD Jb=o;rw[J];rfl
   have U:=M a b Y E;rw[B,Z] at U;dsimp only[gO,bC,cM,bD,cJ,f6,aL,Qa,aM,aB,aA,bJ];refine cp ?_
   (dsimp only[cq,bw,aA,c6,aX,eD,deq,aD,aF,Qa,aB,aK,cW,aN,qS,bW,aP,flags,aC,aG,aE,aI,bv,aH];refine⟨rfl,?_⟩)
   refine g.hc<|mX e ?_;dsimp only[bw,cy,aB];rw[Y5 (KG.mpr<|m i (Qz H))];dsimp only[aB];refine⟨(gm _).1,?_⟩;rw[(gm _).2,Bool.not_not]
   induction o with
   |none=>exact F _ ⟨_,_,rfl⟩
   |some j=>
    refine⟨⟨rfl,rfl⟩,?_⟩;rw[show D.eqv (dO<|Ja j) (.int i)=Jc from(Bool.not_not _).symm.trans U];exact F _ ⟨_,_,rfl⟩
  ·rintro P ⟨x,y,rfl⟩;exact d _ ⟨_,_,_,_,rfl⟩
 ·rintro P ⟨u,v,x,y,rfl⟩;refine f7 ?_;refine bM ?_;dsimp only[c6,aX,aH,ej,deq,aR,aN,aD,aF,Qa,aJ,aB,aA,aK,kA,cV,aP,flags,aC,aG,aE,aI,bj,aS,bw,li];refine bV rfl ?_;dsimp only[fsts,aC,aG,aU,aE,aI,aT,ck,aD,aF,Qa,aJ,aB,aA,aK,bj,bB,cw];refine bE dI (λr=> .int r.sum) (λr hr K k=> ?_) ?_
  ·dsimp only[bp,cA,b5,aM,Qa,aL,aB,aA,bJ];dsimp only[elD]
   (dsimp only[bl,gz,aC,aE,ca,aD,aJ,Qa,aF,aB,aA,aK,dW];refine⟨rfl,?_⟩)
   refine g7 (fB _) ?_;exact k
  ·rw[show(D.list<|Kt (λr:List Int=>D.int r.sum) t)=dI (rsF t) from by rw[dI,rsF,QE];rfl];refine⟨⟨oO _ _,oO _ _⟩,?_⟩;rw[x5,Y4 A]
   (dsimp only[aA];refine⟨rfl,?_⟩)
   refine g.hc<|AU e T ?_;refine⟨⟨oO _ _,oO _ _⟩,?_⟩;rw[x5,Y4 V];exact g.qr k
end
def psF(c:List (List (Option Int)))(h w:Nat):List (Nat×Nat):=(allF h w).filter λp=> !(cO c p.1 p.2).isSome
theorem m9{p:Nat×Nat}(D:p∈psF c h w):p.1<h/\p.2<w/\cO c p.1 p.2=Jb:=by
 obtain⟨N,Y⟩:=Qm.mp D;refine⟨(allF_mem.mp N).1,(allF_mem.mp N).2,?_⟩
 induction e:cO c p.1 p.2 with
 |none=>rfl
 |some i=>rw[e] at Y;exact ft Y
theorem yT(R:Rect c h w)(T:a<h)(v:b<w):dsub (dR (rowAt c a)) (.int b)=Ja (dO (cO c a b)):=nj<|by rw[(R.at_ T).2];exact v
noncomputable abbrev dNs(l:List Nat):D:= .list (l.map λ(k:Nat)=> .int (k:Int))
section
variable{C:Cx}{mg mb:Jq->Option Jf}{n:Nat}{Q:D->Bool->Prop}{X:DX}
theorem iY(e:Env1 C G1 mg mb)(R:Rect c h w)(k:Q (.list ((psF c h w).map dP)) Jc):aQ (aO C (n+2)) "hidden_in" [(dC c,b)] Q X:=by
 refine e.fn fP (bu 20 rfl) rfl λl u P PX g=> ?_;dsimp only[fP];dsimp only[aZ,ch,bt];refine bM ?_;refine cF rfl ?_
 (dsimp only[fsts,aC,aG,aU,aE,aI,aT,ck,aP,flags,aD,aF,Qa,aA,aK,bj,aS,bB,cb,bI];refine⟨rfl,?_⟩)
 refine g.hc<|kK e R ?_;dsimp only[cw,aA,bj,br];refine cg dP dP (λp=> !(cO c p.1 p.2).isSome) (λp D=> ?_) ?_
 ·obtain⟨N,Y⟩:=allF_mem.mp D;dsimp only[dP];dsimp only[bp,cA,b5,aM,Qa,aL,aB,aA,bJ];refine⟨λT q=> ?_,λo0 K k=> ?_⟩
  ·dsimp only[tstD];dsimp only[dw,bw,aR,aN,aD,aJ,Qa,aF,aB,aA,aK,gK,cV,eE];refine aY (hW R N) ?_;refine aY (yT R N Y) ?_;refine⟨(gm _).1,?_⟩;rw[(gm _).2];exact q
  ·dsimp only[elD];dsimp only[aD,aJ,Qa,aF,aB,aA,aK,b6,tgl,bC,cM,bD,cJ];exact k
 ·dsimp only[aH];exact g.qr k
end
noncomputable def upd{α u:Type}[DecidableEq α](g:α->u)(x:α)(v:u):α->u:=λy=>if y=x then v else g y
theorem bU{α u:Type}[DecidableEq α](g:α->u)(x:α)(v:u):upd g x v x=v:=Y8 rfl
theorem cm{α u:Type}[DecidableEq α](g:α->u){x y:α}(v:u)(h:y≠x):upd g x v y=g y:=Y7 h
theorem pg{α u t:Type}[DecidableEq α](f:u->t)(g:α->u)(x:α)(v:u):upd (λy=>f (g y)) x (f v)=λy=>f (upd g x v y):=by
 funext y;by_cases h:y=x
 ·subst h;rw[bU,bU]
 ·rw[cm _ _ h,cm _ _ h]
noncomputable abbrev md{α:Type}(kf:α->List KA)(g:α->D)(xs:List α):D:= .dict (xs.map kf) (xs.map g)
noncomputable def withx{α:Type}[DecidableEq α](xs:List α)(x:α):List α:=if x∈xs then xs else xs++[x]
section
variable{α:Type}[DecidableEq α]{kf:α->List KA}(inj:∀a b,kf a=kf b->a=b){g:α->D}
include inj
theorem kY:∀ {xs:List α},x∈xs->∃j,kidx (xs.map kf) (kf x)=Ja j/\xs[j]? =Ja x
 |y::r,h=>by
  by_cases e:y=x
  ·subst e;exact⟨0,Y8 rfl,rfl⟩
  ·obtain⟨j,N,p⟩:=kY ((Qt.mp h).resolve_left λq=>e q.symm);refine⟨j+1,?_,p⟩;show(if kf y=kf x then Ja 0 else(kidx (r.map kf)<|kf x).map (· +1))=_;rw[Y7 λq=>e<|inj _ _ q,N];rfl
theorem rp:∀ {xs:List α},x∉xs->kidx (xs.map kf) (kf x)=Jb
 |[]=>λo0=>rfl
 |y::r=>λh=>by
  show(if kf y=kf x then Ja 0 else(kidx (r.map kf)<|kf x).map (· +1))=_;rw[Y7 λq=>h<|by rw[inj y x q];exact .head _,rp λq=>h (.tail _ q)];rfl
theorem nK{xs:List α}:(kidx (xs.map kf) (kf x)).isSome=decide (x∈xs):=by
 by_cases h:x∈xs
 ·obtain⟨j,N,o0⟩:=kY inj h;rw[N,Y4 h];rfl
 ·rw[rp inj h,Y5 h];rfl
theorem mw{xs:List α}(h:x∈xs):dlook (xs.map kf) (xs.map g) (kf x)=Ja (g x):=by
 obtain⟨j,N,p⟩:=kY inj h;unfold dlook;rw[N];show(xs.map g)[j]? =_;rw[Qu,p];rfl
theorem ou{xs:List α}(h:x∉xs):dlook (xs.map kf) (xs.map g) (kf x)=Jb:=by
 unfold dlook;rw[rp inj h];rfl
omit inj in
theorem map_set{xs:List α}(nd:xs.Nodup){x:α}{j:Nat}(h:xs[j]? =Ja x)(v:D):(xs.map g).set j v=xs.map (upd g x v):=by
 refine WF λi=> ?_;have H:j<xs.length:=(QC.mp h).1;rw[KS,Qd,Y8 H,Qu,Qu];by_cases e:j=i
 ·subst e;rw[Y8 rfl,h];show Ja v=Ja (upd g x v x);rw[bU]
 ·rw[Y7 e]
  induction t:xs[i]? with
  |none=>rfl
  |some y=>
   have:y≠x:=by
    rintro rfl;exact e<|(List.getElem?_inj H nd).mp (h.trans t.symm)
   show Ja (g y)=Ja (upd g x v y);rw[cm _ _ this]
omit inj in
theorem rk{xs:List α}{x:α}(h:x∉xs)(v:D):xs.map g++[v]=(xs++[x]).map (upd g x v):=by
 rw[QD];show _=xs.map (upd g x v)++[upd g x v x]
 rw[bU]
 congr 1
 exact Qj λy W=>(cm g v λq=>h<|by rw[<-q];exact W).symm
theorem zP{xs:List α}(nd:xs.Nodup)(v:D):dkset (xs.map kf) (xs.map g) (kf x) v=md kf (upd g x v) (withx xs x):=by
 unfold dkset withx md;by_cases h:x∈xs
 ·obtain⟨j,N,p⟩:=kY inj h;rw[N,Y8 h,<-map_set nd p]
 ·rw[rp inj h,Y7 h,<-rk h,QD];rfl
theorem zE{xs:List α}:dens (xs.map kf) (xs.map g) (kf x)=if x∈xs then md kf g xs else md kf (upd g x (.list [])) (xs++[x]):=by
 unfold dens;by_cases h:x∈xs
 ·rw[mw inj h,Y8 h]
 ·rw[ou inj h,Y7 h];unfold md;rw[<-rk h,QD];rfl
theorem c7{d:D}(v:keyD d=Ja (kf x))(h:x∈xs):dsub (md kf g xs) d=Ja (g x):=by
 show((keyD d).bind λk=>dlook (xs.map kf) (xs.map g) k)=_;rw[v];exact mw inj h
theorem zU{xs:List α}(nd:xs.Nodup){d v:D}(q:keyD d=Ja (kf x))(h:x∈xs):dset1 d (λo0=>Ja v) (md kf g xs)=Ja (md kf (upd g x v) xs):=by
 obtain⟨j,N,p⟩:=kY inj h;show((keyD d).bind λk=>(kidx (xs.map kf) k).bind λj=>((xs.map g)[j]?).bind λx=>Wn (λy=>D.dict (xs.map kf)<|(xs.map g).set j y)<|Ja v)=_;rw[q];show((kidx (xs.map kf)<|kf x).bind λj=>((xs.map g)[j]?).bind λx=>Wn (λy=>D.dict (xs.map kf)<|(xs.map g).set j y)<|Ja v)=_;rw[N];show(((xs.map g)[j]?).bind λx=>Wn (λy=>D.dict (xs.map kf)<|(xs.map g).set j y)<|Ja v)=_;rw[Qu,p];show Ja (D.dict (xs.map kf)<|(xs.map g).set j v)=_;rw[map_set nd p]
end
theorem jj{α:Type}[DecidableEq α]{xs:List α}(nd:xs.Nodup)(x:α):(withx xs x).Nodup:=by
 unfold withx
 split
 ·exact nd
 ·rename_i h
  exact Qo.mpr ⟨nd,Qy.mpr ⟨λq=>(bQ q),.nil⟩,λa T b R q=>h<|by rw[Qk.mp R] at q;exact q▸T⟩
theorem withx_mem{α:Type}[DecidableEq α]{xs:List α}{x y:α}:y∈withx xs x↔y∈xs\/y=x:=by
 unfold withx
 split
 ·rename_i h
  exact⟨.inl,λq=>q.elim id λq=>q▸h⟩
 ·rw[Qn,Qk]
theorem xI{α:Type}(kf:α->List KA)(g:α->D)(xs:List α):md kf g xs= .dict (xs.map kf) (xs.map g):=rfl
section
variable{G:Gx}{cl cu:DCl}{Δ:DRho}{Q:bR}{X:DSX}{r:List S}{α:Type}[DecidableEq α]{kf:α->List KA}{g:α->D}{xs:List α}
theorem sH(inj:∀a b,kf a=kf b->a=b){x:String}{k e:E}{a:α}{old:List D}{dk dv:D}(hx:Δ.get x=Ja (md kf g xs,Jc))(nd:xs.Nodup)(l:xs.length<lim)(M:keyD dk=Ja (kf a))(Y:old.length<lim)
  (S:a∈xs->g a= .list old)(o:a∉xs->old=[])
  (N:∀ (Q:DQ) (X:DX),Q dk Jb->dwe G cl k Δ Q X)(we:∀ (z:D) (Q:DQ) (X:DX),Q dv Jb->dwe G cl e (Δ.put x (z,Jc)) Q X)
  (h:dwss G cl cu r (Δ.put x (md kf (upd g a<|.list (old++[dv]))<|withx xs a,Jc)) Q X):dwss G cl cu (.expr (.meth (.sd (.loc x) k) .append [e])::r) Δ Q X:=by
 refine sM ?_;show dsd G cl .append [e] Δ (λP=>dwss G cl cu r P Q X) x k;unfold dsd;rw[hx,aK];refine⟨rfl,?_⟩;rw[xI,xo];refine N _ _ ⟨by rw[Qd];exact l,?_⟩;rw[M,oa,zE inj];dsimp only;have fin:∀ (i:α->D) (s:List α),s.Nodup->a∈s->i a= .list old->md kf (upd i a<|.list (old++[dv])) s=md kf (upd g a<|.list (old++[dv])) (withx xs a)->
   dOD (λZ=>drecv .append Z/\dwes G cl [e] (Δ.put x (md kf i s,Jc)) (λw=>tjs w=Jb/\dmeth .append (fsts w) Z λB=>dOD (λd=>dwss G cl cu r (Δ.put x (d,Jc)) Q X)<|dset1 dk (λo0=>Ja B) (md kf i s)) λo0 o0=>False) (dsub (md kf i s) dk):=λi s T m v q=>by
  rw[c7 inj M m,cV,v];refine⟨trivial,?_⟩;rw[aC];refine we _ _ _ ?_;rw[aE];refine⟨rfl,Y,?_⟩;dsimp only;rw[zU inj T M m,cV,q];exact h
 by_cases m:a∈xs
 ·rw[Y8 m];exact fin g xs nd m (S m)<|by unfold withx;rw[Y8 m]
 ·rw[Y7 m];have H:withx xs a=xs++[a]:=by unfold withx;rw[Y7 m]
  refine fin _ (xs++[a]) (H▸jj nd a) (Qe _<|.head _) (by rw[bU,o m]) ?_;rw[H]
  congr 1
  funext y;by_cases W:y=a
  ·subst W;rw[bU,bU]
  ·rw[cm _ _ W,cm _ _ W,cm _ _ W]
theorem jz(inj:∀a b,kf a=kf b->a=b)(hx:Δ.get x=Ja (md kf g xs,Jc))(nd:xs.Nodup)(l:xs.length<lim)(q:keyD dk=Ja (kf a))
  (we:∀ (Q:D->DRho->Prop),Q dv Δ->dwm G cl Δ e Δ Q)(w:∀ (Q:DQ) (X:DX),Q dk Jb->dwe G cl k Δ Q X)
  (h:dwss G cl cu r (Δ.put x (md kf (upd g a dv)<|withx xs a,Jc)) Q X):dwss G cl cu (.setIdx (.loc x) k e::r) Δ Q X:=by
 refine oq<|we _ ?_;rw[i3,hx,aK];refine⟨rfl,w _ _ ?_⟩;rw[xI,BL];refine⟨by rw[Qd];exact l,?_⟩;rw[q,oa,zP inj nd];show dOE _ (Δ.get x);rw[hx,aK];exact h
end
set_option genCtorIdx false in set_option genInjectivity true in
inductive Nd where
 |r(i:Nat)|c(j:Nat)
noncomputable abbrev Nd.ctorIdx(x:Nd):Nat:=Nd.casesOn x (λo0=>0) (λo0=>1)
deriving instance DecidableEq for Nd
abbrev Pl:=Nat×Nat
noncomputable def Nd.key:Nd->List KA
 | .r i=>[.t "row",.n i]
 | .c j=>[.t "column",.n j]
noncomputable def dN:Nd->D
 | .r i=> .tup [.str "row",.int i]
 | .c j=> .tup [.str "column",.int j]
noncomputable def pkey(p:Pl):List KA:=[.n p.1,.n p.2]
theorem f0(x:Nd):keyD (dN x)=Ja x.key:=by rcases x with⟨⟩<;>rfl
theorem cY(p:Pl):keyD (dP p)=Ja (pkey p):=rfl
theorem dB:∀a b:Nd,a.key=b.key->a=b
 | .r i,.r j=>λh=>by injection h with _ h;injection h with h;injection h with h;rw[Wp.mp h]
 | .c i,.c j=>λh=>by injection h with _ h;injection h with h;injection h with h;rw[Wp.mp h]
 | .r i,.c j=>λh=>by injection h with h;injection h with h;exact absurd h<|by decide
 | .c i,.r j=>λh=>by injection h with h;injection h with h;exact absurd h<|by decide
theorem b8(a b:Pl)(h:pkey a=pkey b):a=b:=by
 injection h with h1 h;injection h1 with h1;injection h with h2;injection h2 with h2;exact Prod.ext (Wp.mp h1)<|Wp.mp h2
def dE(e:Nd×Pl):D:= .tup [dN e.1,dP e.2]
noncomputable def nbrs(ps:List Pl):Nd->List (Nd×Pl)
 | .r i=>(ps.filter λp=>decide (p.1=i)).map λp=>(.c p.2,p)
 | .c j=>(ps.filter λp=>decide (p.2=j)).map λp=>(.r p.1,p)
def nearG(ps:List Pl)(x:Nd):D:= .list ((nbrs ps x).map dE)
theorem eN(x:Nd):(dN x).atom=Jc:=by rcases x with⟨⟩<;>rfl
theorem lJ(ps:List Pl)(p:Pl)(x:Nd):nbrs (ps++[p]) x=nbrs ps x++(if x= .r p.1 then [(.c p.2,p)] else if x= .c p.2 then [(.r p.1,p)] else []):=by
 induction x with
 |r i=>
  show Kt _ (Wh _ _)=_;rw[List.filter_append,QD];by_cases h:p.1=i
  ·subst h;rw[Y8 rfl,Ko (by simp)];rfl
  ·rw[Y7 (λq=>h (Nd.r.inj q).symm),Y7 (λq=>nomatch q),Kq (by simpa using h)];rfl
 |c j=>
  show Kt _ (Wh _ _)=_;rw[List.filter_append,QD];by_cases h:p.2=j
  ·subst h;rw[Y7 (λq=>nomatch q),Y8 rfl,Ko (by simp)];rfl
  ·rw[Y7 (λq=>nomatch q),Y7<|λq=>h (Nd.c.inj q).symm,Kq (by simpa using h)];rfl
theorem uy(ps:List Pl)(x:Nd):(nbrs ps x).length<=ps.length:=by
 induction x with
 |r i=>show(Kt _ _).length<=_;rw[Qd];exact Wm _ _
 |c i=>show(Kt _ _).length<=_;rw[Qd];exact Wm _ _
structure NearX(ps:List Pl)(xs:List Nd):Prop where
 nd:xs.Nodup
 len:xs.length<=2*ps.length
 out:∀x,x∉xs->nbrs ps x=[]
theorem jw{α:Type}[DecidableEq α](xs:List α)(x:α):(withx xs x).length<=xs.length+1:=by
 unfold withx
 split
 ·exact WD _
 ·rw[QG];exact QA _
theorem NearX.snoc{ps:List Pl}{xs:List Nd}(h:NearX ps xs)(p:Pl):NearX (ps++[p]) (withx (withx xs (.r p.1)) (.c p.2)):=by
 refine⟨jj (jj h.nd _) _,?_,λx hx=> ?_⟩
 ·have N:=jw (withx xs<|.r p.1)<|.c p.2;have Y:=jw xs<|.r p.1;have J:=h.len;rw[QG,WH];exact zle N<|KN (zle Y<|KN J)
 ·rw[withx_mem,withx_mem,not_or,not_or] at hx;rw[lJ,h.out x hx.1.1,Y7 hx.1.2,Y7 hx.2];rfl
theorem rN(ps:List Pl)(p:Pl):upd (upd (nearG ps) (.r p.1) (.list ((nbrs ps (.r p.1)).map dE++[dE (.c p.2,p)]))) (.c p.2) (.list ((nbrs ps (.c p.2)).map dE++[dE (.r p.1,p)]))=nearG (ps++[p]):=by
 funext x;unfold nearG;rw[lJ,QD];by_cases h:x= .c p.2
 ·subst h;rw[bU,Y7 (λq=>nomatch q),Y8 rfl];rfl
 ·rw[cm _ _ h];by_cases N:x= .r p.1
  ·subst N;rw[bU,Y8 rfl];rfl
  ·rw[cm _ _ N,Y7 N,Y7 h,Wj,QH]
section
variable{C:Cx}{mg mb:Jq->Option Jf}{n:Nat}{Q:D->Bool->Prop}{X:DX}
theorem pA(e:Env1 C G1 mg mb){ps:List Pl}(D:ps.length<=64){b:Bool}(k:∀xs,NearX ps xs->Q (md Nd.key (nearG ps) xs) Jc):aQ (aO C (n+1)) "near_of" [(.list (ps.map dP),b)] Q X:=by
 refine e.fn iF (bu 0 rfl) rfl λcl cu P PX F=> ?_;dsimp only[iF];dsimp only[aZ,ch,bt];refine bk ?_
 (dsimp only[ir,bA,aH,aL,Qa,aM,aB,aA];refine⟨rfl,?_⟩)
 refine dG rfl ?_;dsimp only[fsts,aC,aG,aU,aE,aI,aT,ck,aD,aF,Qa,aJ,aB,aA,aK,bj,bB,fM,fH,fG,fK,bL,bK,fF,d4,gn,cP,fN,fJ,cw];refine cK dP (λi Δ=>X3 λv xs c=>NearX (ps.take i) xs/\Δ=(Nb "places" c (.list<|ps.map dP)<|Nb "found" Jc (md Nd.key (nearG<|ps.take i) xs)<|No "place" v<|[])) _ _ ⟨_,[],_,⟨.nil,QV _,λx o0=>by rcases x with⟨⟩<;>rfl⟩,rfl⟩ ?_ ?_
 ·rintro j p Δ H ⟨v,xs,c,N,rfl⟩ K m;have E:ps.take (j+1)=ps.take j++[p]:=by rw[List.take_add_one,H];rfl
  have l:(ps.take j).length<=64:=by rw[Yq];exact zle (Yr _ _) D
  have h:=N.len;generalize ps.take j=s at N E l h ⊢;have R:∀x,((nbrs s x).map dE).length<lim:=λx=>by rw[Qd];exact cS (by have:=uy s x;exact zb1 (zle this l) rfl)
  dsimp only[b5,aL,Qa,aM,aA,aB,bJ];refine sH dB (a:= .r p.1) (g:=nearG s) (xs:=xs) (dk:=dN<|.r p.1) (dv:=dE (.c p.2,p)) (old:=(nbrs s<|.r p.1).map dE) rfl N.nd (cS<|by exact zb1 (zle h<|WQ 2 l) rfl) (f0 _) (R _) (λo0=>rfl) (λq=>by rw[N.out _ q];rfl) (λQ X q=> ?_) (λd Q X q=> ?_) ?_
  ·dsimp only[dP];dsimp only[gO,bC,cM,bD,cJ,bS,fsts,dtup,aC,aG,aV,aU,aE,aI,aW,aT,aR,aN,aD,aF,Qa,aA,aB,aK,b6,tgl,eE,cV,bv,br,cf];refine gV ?_
   (dsimp only[br];refine⟨by decide,?_⟩)
   exact q
  ·dsimp only[dP];dsimp only[gO,bC,cM,bD,cJ,aL,Qa,aB,aA,bS,fsts,dtup,aC,aG,aV,aU,aE,aI,aW,aT,aD,aF,aK,b6,tgl,br,aR,aN,gK,cV,bv,cf];refine f9 ?_
   (dsimp only[br];refine⟨by decide,by decide,?_⟩)
   exact q
  dsimp only[aL,Qa,aB,aA];have Y:=jw xs<|.r p.1;refine sH dB (a:= .c p.2) (dk:=dN<|.c p.2) (dv:=dE (.r p.1,p)) (old:=(nbrs s<|.c p.2).map dE) rfl (jj N.nd _) (cS<|by exact zb1 (zle Y<|KN (zle h<|WQ 2 l)) rfl) (f0 _) (R _) (λo0=>cm (nearG s) (y:=Nd.c p.2) _ (λq=>nomatch q)) (λq=>by rw[N.out _ λz=>q (withx_mem.mpr<|.inl z)];rfl) (λQ X q=> ?_) (λd Q X q=> ?_) ?_
  ·dsimp only[dP];dsimp only[gO,bC,cM,bD,cJ,bS,fsts,dtup,aC,aG,aV,aU,aE,aI,aW,aT,aR,aN,aD,aF,Qa,aA,aB,aK,b6,tgl,gK,cV,bv,br,cf];refine f9 ?_
   (dsimp only[br];refine⟨by decide,?_⟩)
   exact q
  ·dsimp only[dP];dsimp only[gO,bC,cM,bD,cJ,aL,Qa,aB,aA,bS,fsts,dtup,aC,aG,aV,aU,aE,aI,aW,aT,aD,aF,aK,b6,tgl,br,aR,aN,eE,cV,bv,cf];refine gV ?_
   (dsimp only[br];refine⟨by decide,by decide,?_⟩)
   exact q
  dsimp only[aL,Qa,aB,aA];rw[rN];exact m _ ⟨_,_,_,E▸N.snoc p,by rw[E];rfl⟩
 ·rintro Δ ⟨v,xs,c,N,rfl⟩;rw[Ke] at N;refine cL ?_;rw[Ke];dsimp only[b9,aL,Qa,aM,aB,aA,aF,aJ,aK,d4];exact F.qr<|k xs N
end
theorem tF{L:Type}[DecidableEq L]:∀ {xs ys:List L},xs.Nodup->(∀x∈xs,x∈ys)->xs.length<=ys.length:=λ{xs}=>by
 induction xs with
 |nil=>exact λ{ys} _ _=>QV _
 |cons x xs i=>
  intro ys nd h;obtain⟨n,z⟩:=Qy.mp nd;have hx:=h x<|.head _;have:=i (ys:=ys.erase x) z λy W=>(List.mem_erase_of_ne<|λ(q:y=x)=>n<|q▸W).mpr (h y<|.tail _ W);rw[List.length_erase_of_mem hx] at this;exact Nat.add_le_of_le_sub (List.length_pos_of_mem hx) this
abbrev Par:=Nd->Option (Nd×Pl)
abbrev Bs:=List Nd×Par
noncomputable def Nd.isR:Nd->Bool
 | .r _=>Jc
 | .c _=>Jd
noncomputable def okE(x:Pl->Int)(z:Nd)(p:Pl):Bool:=z.isR||decide (x p>0)
def stp(x:Pl->Int)(z:Nd)(s:Bs)(e:Nd×Pl):Bs:=if e.1∉s.1/\okE x z e.2=Jc then(s.1++[e.1],upd s.2 e.1<|Ja (z,e.2)) else s
noncomputable def bfsO(s:Bs)(f:Nd->Bs):Option Nd->Bs
 |some z=>f z
 |none=>s
noncomputable def bfs(ps:List Pl)(x:Pl->Int):Nat->Nat->Bs->Bs
 |0,_,s=>s
 |k+1,i,s=>bfsO s (λz=>bfs ps x k (i+1) ((nbrs ps z).foldl (stp x z) s)) s.1[i]?
theorem tc(ps:List Pl)(x:Pl->Int)(k i:Nat)(s:Bs):bfs ps x (k+1) i s=bfsO s (λz=>bfs ps x k (i+1) ((nbrs ps z).foldl (stp x z) s)) s.1[i]? :=rfl
noncomputable def allN(h w:Nat):List Nd:=(Qc h).map .r++(Qc w).map .c
structure Bfs(ps:List Pl)(x:Pl->Int)(st:List Nd)(h w:Nat)(s:Bs):Prop where
 nd:s.1.Nodup
 val:∀y∈s.1,y∈allN h w
 has:∀y∈st,y∈s.1
 par:∀ (j:Nat) (y:Nd),s.1[j]? =Ja y->(s.2 y=Jb/\y∈st)\/X3 λ(z:Nd) (p:Pl) (i:Nat)=>A5 (s.2 y=Ja (z,p)) (i<j) (s.1[i]? =Ja z) ((y,p)∈nbrs ps z)<|okE x z p=Jc
theorem Bfs.len{x:Pl->Int}{s:Bs}(b:Bfs ps x st h w s):s.1.length<=h+w:=by
 have:=tF b.nd b.val
 rwa [allN,QG,Qd,Qd,QB,QB] at this
def Clo(ps:List Pl)(x:Pl->Int)(n:Nat)(s:Bs):Prop:=∀i z,i<n->s.1[i]? =Ja z->∀e∈nbrs ps z,okE x z e.2=Jc->e.1∈s.1
theorem qV(x:Pl->Int)(z:Nd)(s:Bs)(e:Nd×Pl):s.1<+:(stp x z s e).1:=by
 unfold stp
 split
 ·exact List.prefix_append _ _
 ·exact List.prefix_refl _
theorem ja(x:Pl->Int)(z:Nd):∀ (es:List (Nd×Pl)) (s:Bs),s.1<+:(es.foldl (stp x z) s).1
 |[]=>λs=>List.prefix_refl _
 |e::es=>λs=>(qV x z s e).trans (ja x z es _)
theorem uY(x:Pl->Int)(z:Nd):∀ (es:List (Nd×Pl)) (s:Bs),∀e∈es,okE x z e.2=Jc->e.1∈(es.foldl (stp x z) s).1:=λes=>by
 induction es with
 |nil=>exact λs f j=>bQ j
 |cons e es i=>
  intro s f j o
  rcases Qt.mp j with rfl|j
  ·refine(ja x z es _).subset ?_;unfold stp;by_cases q:f.1∉s.1/\okE x z f.2=Jc
   ·rw[Y8 q];exact Qe _<|.head _
   ·rw[Y7 q];exact Classical.byContradiction λw=>q ⟨w,o⟩
  ·exact i _ f j o
theorem rC{L:Type}{l m:List L}(h:l<+:m){i:Nat}{a:L}(e:l[i]? =Ja a):m[i]? =Ja a:=by
 obtain⟨t,rfl⟩:=h;rw[Ws (QC.mp e).1];exact e
theorem qF(D:∀p∈ps,p.1<h/\p.2<w){e:Nd×Pl}(O:e∈nbrs ps z):e.2∈ps/\e.1∈allN h w:=by
 induction z with
 |r i=>
  obtain⟨p,N,rfl⟩:=Ql.mp O;have N:=(Qm.mp N).1;exact⟨N,Qe _<|Ql.mpr ⟨_,Qi.mpr (D p N).2,rfl⟩⟩
 |c j=>
  obtain⟨p,N,rfl⟩:=Ql.mp O;have N:=(Qm.mp N).1;exact⟨N,Qf _<|Ql.mpr ⟨_,Qi.mpr (D p N).1,rfl⟩⟩
section
variable{ps:List Pl}{x:Pl->Int}{st:List Nd}{h w:Nat}
theorem Bfs.stp(D:∀p∈ps,p.1<h/\p.2<w){s:Bs}(b:Bfs ps x st h w s){z:Nd}{i:Nat}(hz:s.1[i]? =Ja z){e:Nd×Pl}(O:e∈nbrs ps z):Bfs ps x st h w (stp x z s e):=by
 unfold Vl.Internal.stp;by_cases q:e.1∉s.1/\okE x z e.2=Jc
 ·rw[Y8 q];refine⟨?_,λy W=> ?_,λy W=>Qf _<|b.has y W,λj y H=> ?_⟩
  ·exact Qo.mpr ⟨b.nd,Qy.mpr ⟨λq=>(bQ q),.nil⟩,λa Z c C r=>q.1<|by rw[Qk.mp C] at r;exact r▸Z⟩
  ·rcases Qn.mp W with W|W
   ·exact b.val y W
   ·rw[Qk.mp W];exact(qF D O).2
  ·have l:i<s.1.length:=(QC.mp hz).1
   rcases Nat.lt_or_ge j s.1.length with M|M
   ·rw[Ws M] at H;have W:y≠e.1:=λr=>q.1 (r▸Qz H)
    rcases b.par j y H with⟨N,Y⟩|⟨A,p,G,N,Y,J,T,B⟩
    ·exact .inl ⟨(cm s.2 _ W).trans N,Y⟩
    ·exact .inr ⟨A,p,G,(cm s.2 _ W).trans N,Y,by rw[Ws (by exact Nat.lt_trans Y M)];exact J,T,B⟩
   ·rw[WO M] at H;have:j-s.1.length=0:=by
     rcases Nat.eq_zero_or_pos (j-s.1.length) with r|r
     ·exact r
     ·rw[KZ (show [e.1].length<=_ from r)] at H;exact ns H
    rw[this] at H;obtain rfl:=sj H;exact .inr ⟨z,e.2,i,bU _ _ _,by exact zll l M,by rw[Ws l];exact hz,O,q.2⟩
 ·rw[Y7 q];exact b
theorem Bfs.fold(D:∀p∈ps,p.1<h/\p.2<w){z:Nd}{i:Nat}:∀ (es:List (Nd×Pl)) {s:Bs},Bfs ps x st h w s->s.1[i]? =Ja z->(∀e∈es,e∈nbrs ps z)->Bfs ps x st h w (es.foldl (Vl.Internal.stp x z) s):=λes=>by
 induction es with
 |nil=>exact λb o0 o0=>b
 |cons e es W=>exact λ{s} b v O=>W (b.stp D v (O e (.head _))) (rC (qV x z s e) v) λf j=>O f<|.tail _ j
theorem qa(D:∀p∈ps,p.1<h/\p.2<w)(X:h+w<=16):∀ (k i:Nat) (s:Bs),Bfs ps x st h w s->Clo ps x i s->i<=s.1.length->16<i+k->Bfs ps x st h w (bfs ps x k i s)/\∀z∈(bfs ps x k i s).1,∀e∈nbrs ps z,okE x z e.2=Jc->e.1∈(bfs ps x k i s).1
 |0=>λi s b o0 t g=>by have:=b.len;exact absurd g<|Kc.mpr (zle t<|zle this X)
 |k+1=>λi s b c t g=>by
  rw[tc]
  induction e:s.1[i]? with
  |none=>
   have:s.1.length<=i:=WU.mp e;show Bfs ps x st h w s/\∀z∈s.1,_;refine⟨b,λz v f W o=> ?_⟩;obtain⟨j,H⟩:=Yt v;exact c j z (zll (QC.mp H).1 this) H f W o
  |some z=>
   have r:=ja x z (nbrs ps z) s;have l:i<s.1.length:=(QC.mp e).1;refine qa D X k (i+1) _ (Bfs.fold D _ b e λf W=>W) (λj y H S f W o=> ?_) (zle l r.length_le)<|Nat.lt_of_lt_of_eq g (QL i 1 k).symm;have M:j<s.1.length:=by exact zl (zs H) l
   have R:s.1[j]? =Ja y:=by
    have J:=rC r<|Qg M;rw[Qg M,<-J];exact S
   by_cases q:j=i
   ·subst q;obtain rfl:=sj<|e.symm.trans R;exact uY x z _ _ f W o
   ·exact r.subset<|c j y (by exact Nat.lt_of_le_of_ne (zs H) q) R f W o
end
theorem fA{tst:DRho->(Bool->Prop)->Prop}{body:DRho->bR->Prop}(I:Nat->DRho->Prop)
  (h:∀ (k:Nat) (L:DRho),I k L->∀K:DRho->Prop,(∀j P,j<k->I j P->K P)->tst L λb=>cond b (body L<|donFl K Q)<|Q .next L):∀ (n k:Nat) (L:DRho),k<n->I k L->dwhGo tst body Q n L
 |0=>λk o0 q o0=>absurd q<|Wf _
 |n+1=>λk L q i=>h k L i (λJ=>dwhGo tst body Q n J) λj P H w=>fA I h n j P (QK H<|Wg q) w
def dV:Option (Nd×Pl)->D
 |none=> .none
 |some e=> .tup [dN e.1,dP e.2]
abbrev dCm(s:Bs):D:=md Nd.key (λy=>dV (s.2 y)) s.1
abbrev dCt(ps:List Pl)(x:Pl->Int):D:=md pkey (λp=> .int (x p)) ps
noncomputable def Nd.wd:Nd->String
 | .r _=>"row"
 | .c _=>"column"
noncomputable def Nd.no:Nd->Nat
 | .r i=>i
 | .c i=>i
theorem qO(z:Nd):dsub (dN z) (.int 0)=Ja (.str z.wd):=by rcases z with⟨⟩<;>rfl
theorem ru(z:Nd):dsub (dN z) (.int 1)=Ja (.int z.no):=by rcases z with⟨⟩<;>rfl
theorem Bi(z:Nd):dN z= .tup [.str z.wd,.int z.no]:=by rcases z with⟨⟩<;>rfl
theorem mu:D.okd 40 (.str "row")=Jc:=by decide+kernel
theorem mB:D.okd 40 (.str "column")=Jc:=by decide+kernel
theorem yr:D.eqv (.str "row") (.str "row")=Jc:=cQ _
theorem Av:D.eqv (.str "column") (.str "column")=Jc:=cQ _
theorem yC:D.eqv (.str "row") (.str "column")=Jd:=by decide+kernel
theorem zK:D.eqv (.str "column") (.str "row")=Jd:=by decide+kernel
theorem pR(z:Nd):D.okd 40 (.str z.wd)=Jc:=by
 induction z with
 |r i=>exact mu
 |c i=>exact mB
theorem rc(z:Nd):D.eqv (.str z.wd) (.str "row")=z.isR:=by
 induction z with
 |r i=>exact yr
 |c i=>exact zK
theorem qq(z:Nd):D.eqv (.str z.wd) (.str "column")= !z.isR:=by
 induction z with
 |r i=>exact yC
 |c i=>exact Av
theorem qb(p:Pl):D.okd 40 (dP p)=Jc:=rfl
theorem kW{L:Type}[DecidableEq L]{xs:List L}{x:L}(h:x∉xs):withx xs x=xs++[x]:=Y7 h
theorem tn{s:Bs}{a:Nd}(h:a∉s.1)(v:Option (Nd×Pl)):md Nd.key (upd (λy=>dV (s.2 y)) a (dV v)) (withx s.1 a)=dCm (s.1++[a],upd s.2 a v):=by
 rw[kW h,pg dV s.2 a v]
theorem eK{L:Type}{l:List L}{j:Nat}{a:L}(h:l[j]? =Ja a):l.take (j+1)=l.take j++[a]:=by rw[List.take_add_one,h];rfl
theorem l5{L:Type}{l:List L}(nd:l.Nodup){j:Nat}{a:L}(h:l[j]? =Ja a):a∉l.take j:=λq=>by
 have:=nd.sublist<|Yj (j+1) l;rw[eK h] at this;exact(Qo.mp this).2.2 a q a (.head _) rfl
theorem Af{x:Pl->Int}{s:Bs}(h:s.1[i]? =Ja z):bfs ps x (k+1) i s=bfs ps x k (i+1) ((nbrs ps z).foldl (stp x z) s):=by
 rw[tc,h];rfl
theorem xq{x:Pl->Int}{s:Bs}(h:s.1.length<=i):bfs ps x k i s=s:=by
 induction k using Nat.casesOn with
 |zero=>rfl
 |succ k=>
  rw[tc,KZ h];rfl
theorem gp{L u:Type}(f:u->L->u)(s:u){l:List L}{j:Nat}{a:L}(h:l[j]? =Ja a):(l.take (j+1)).foldl f s=f ((l.take j).foldl f s) a:=by
 rw[eK h,List.foldl_append];rfl
def bfsF(ps:List Pl)(x:Pl->Int)(st:List Nd):Bs:=bfs ps x 17 0 (st,λo0=>Jb)
theorem Bfs.start{x:Pl->Int}{st:List Nd}(nd:st.Nodup)(hv:∀y∈st,y∈allN h w):Bfs ps x st h w (st,λo0=>Jb):=
 ⟨nd,hv,λy W=>W,λj y H=> .inl ⟨rfl,Qz H⟩⟩
noncomputable def bn(ban:Option Pl)(ps:List Pl):List Pl:=ps.filter λq=> !decide (ban=Ja q)
def dBn:Option Pl->D
 |none=> .none
 |some p=>dP p
theorem wo(ps:List Pl):bn Jb ps=ps:=List.filter_eq_self.mpr λq o0=>by rw[Y5 (λz=>ns z)];rfl
theorem bn_mem:q∈bn ban ps↔q∈ps/\ban≠Ja q:=by
 rw[bn,Qm];exact and_congr_right λo0=>⟨λh z=>by rw[Y4 z] at h;exact ft h,λh=>by rw[Y5 h];rfl⟩
theorem wf(ban:Option Pl):D.okd 40 (dBn ban)=Jc:=by rcases ban with⟨⟩<;>rfl
theorem jH(p q:Pl):D.eqv (dP p) (dP q)=decide (p=q):=by
 show D.eqv (.tup [_,_]) (.tup [_,_])=_;rw[AP,cj,cj,KM,QW,Ua,Ua,Ua];exact⟨λh=>Prod.ext (Wp.mp h.1)<|Wp.mp h.2,λh=>h▸⟨rfl,rfl⟩⟩
theorem xh(p:Pl)(ban:Option Pl):D.eqv (dP p) (dBn ban)=decide (ban=Ja p):=by
 induction ban with
 |none=>rw[Y5 (λz=>ns z)];rfl
 |some q=>exact(jH p q).trans (decide_eq_decide.mpr ⟨λh=>h▸rfl,λh=>(sj h).symm⟩)
theorem mj(ban:Option Pl)(ps:List Pl)(z:Nd):nbrs (bn ban ps) z=(nbrs ps z).filter λe=> !decide (ban=Ja e.2):=by
 induction z with
 |r i=>
  show Kt _ (Wh _<|Wh _ _)=Wh _ (Kt _<|Wh _ _);rw[List.filter_map,Wl,Wl];refine Ub _ (WG λq o0=> ?_);exact Bool.and_comm _ _
 |c i=>
  show Kt _ (Wh _<|Wh _ _)=Wh _ (Kt _<|Wh _ _);rw[List.filter_map,Wl,Wl];refine Ub _ (WG λq o0=> ?_);exact Bool.and_comm _ _
def stpB(ban:Option Pl)(x:Pl->Int)(z:Nd)(s:Bs)(e:Nd×Pl):Bs:=if !decide (ban=Ja e.2) then stp x z s e else s
theorem qP(ban:Option Pl)(x:Pl->Int)(z:Nd)(s:Bs)(l:List (Nd×Pl)):l.foldl (stpB ban x z) s=(l.filter λe=> !decide (ban=Ja e.2)).foldl (stp x z) s:=List.foldl_filter.symm
noncomputable def whB(f:Fn):List S:=match (f.b[4]? :Option S) with
 |some (.while_ _ [_,_,.for_ _ _ _ b])=>b
 |_=>[]
section
variable{C:Cx}{mg mb:Jq->Option Jf}{n:Nat}{Q:D->Bool->Prop}{X:DX}
theorem zx{A W:DCl}{ban:Option Pl}{ps:List Pl}{x:Pl->Int}{st:List Nd}{h w:Nat}(I:∀p∈ps,p.1<h/\p.2<w){s:Bs}{z:Nd}{i:Nat}(b:Bfs (bn ban ps) x st h w s)(hz:s.1[i]? =Ja z)(m:h+w<=16){N V c Y:Bool}{R Z u2 u3:Option (D×Bool)}{d1 d:D}{Kp:bR}
  (hK:∀u v,Kp .next (Nb "near" N d1<|Nb "counts" V (dCt ps x)<|Nb "starts" c d<|Nb "banned" Y (dBn ban)<|Nb "came" Jc (dCm<|(nbrs (bn ban ps) z).foldl (stp x z) s)<|Nb "waiting" Jc (.list<|((nbrs (bn ban ps) z).foldl (stp x z) s).1.map dN)<|No "start" Z<|No "at" R<|Nb "here" Jc (dN z)<|No "other" u<|No "place" v<|[])):
  gk (.tup ["other","place"]) (λL K=>dwss G1 A W (whB fw) L K λo0 o0 o0=>False) Kp ((nbrs ps z).map dE)
   (Nb "near" N d1<|Nb "counts" V (dCt ps x)<|Nb "starts" c d<|Nb "banned" Y (dBn ban)<|Nb "came" Jc (dCm s)<|Nb "waiting" Jc (.list<|s.1.map dN)<|No "start" Z<|No "at" R<|Nb "here" Jc (dN z)<|No "other" u2<|No "place" u3<|[]):=by
 have tz:∀y t,tg0 (dN y) t=Jb:=λy t=>by unfold tg0;rw[eN];rfl
 have tp:∀y t,tg0 (dP y) t=Jb:=λy t=>rfl;refine cK dE (λj L=>∃u v,L=(Nb "near" N d1<|Nb "counts" V (dCt ps x)<|Nb "starts" c d<|Nb "banned" Y (dBn ban)<|Nb "came" Jc (dCm<|((nbrs ps z).take j).foldl (stpB ban x z) s)<|Nb "waiting" Jc (.list<|(((nbrs ps z).take j).foldl (stpB ban x z) s).1.map dN)<|No "start" Z<|No "at" R<|Nb "here" Jc (dN z)<|No "other" u<|No "place" v<|[])) _ _ ⟨_,_,rfl⟩ ?_ ?_
 ·rintro j f L F ⟨u,v,rfl⟩ K k;have hm:=Qz F;have e:Bfs (bn ban ps) x st h w (((nbrs ps z).take j).foldl (stpB ban x z) s):=by
   rw[qP];refine b.fold (λp M=>I p (bn_mem.mp M).1) _ hz λg O=> ?_;rw[mj];exact Qm.mpr ⟨Yu (Qm.mp O).1,(Qm.mp O).2⟩
  have l:=e.len;rw[gp (stpB ban x z) s F] at k;generalize ((nbrs ps z).take j).foldl (stpB ban x z) s=t at e k l ⊢;obtain⟨o,p⟩:=f;have H:=(qF I hm).1;dsimp only[dE,whB,fw];dsimp only[gO,bC,bD,f6,aL,Qa,aM,aB,aA,bJ];refine cp ?_;dsimp only[c6,cq,bw,aA,aX,aN,aR,aD,aF,Qa,aJ,aB,aK,ej,deq,cf,eD,g8];rw[ti,f0,oa,nK dB,eN,d3];dsimp only[cJ];refine rZ (λE=> ?_) λE=> ?_
  ·refine⟨⟨qb p,wf ban⟩,?_⟩;rw[xh];refine rZ (λB=> ?_) λB=> ?_
   rotate_left
   ·rw[show stpB ban x z t (o,p)=t from Y7 (by rw[Y4 B];exact QF)] at k;exact k _ ⟨_,_,rfl⟩
   rw[show stpB ban x z t (o,p)=stp x z t (o,p) from Y8 (by rw[Y5 B];rfl)] at k;refine aY (qO _) ?_;refine gV ?_;refine⟨⟨pR z,mu⟩,?_⟩;rw[rc];have G:okE x z p=Jc->∀ (r:List S) (X:DSX) (J:bR),(∀P,(∃u v,P=(Nb "near" N d1<|Nb "counts" V (dCt ps x)<|Nb "starts" c d<|Nb "banned" Y (dBn ban)<|Nb "came" Jc (dCm<|stp x z t (o,p))<|Nb "waiting" Jc (.list<|(stp x z t (o,p)).1.map dN)<|No "start" Z<|No "at" R<|Nb "here" Jc (dN z)<|No "other" u<|No "place" v<|[]))->J .next P)->
     dwss G1 A W [.setIdx (.loc "came") (.loc "other") (.tup [.loc "here",.loc "place"]),.expr (.meth (.loc "waiting") .append [.loc "other"])] (Nb "near" N d1<|Nb "counts" V (dCt ps x)<|Nb "starts" c d<|Nb "banned" Y (dBn ban)<|Nb "came" Jc (dCm t)<|Nb "waiting" Jc (.list<|t.1.map dN)<|No "start" Z<|No "at" R<|Nb "here" Jc (dN z)<|Nb "other" Jc (dN o)<|Nb "place" Jc (dP p)<|[]) J X:=λho r X J U=>by
    have hs:stp x z t (o,p)=(t.1++[o],upd t.2 o<|Ja (z,p)):=Y8 ⟨E,ho⟩;rw[hs] at U;refine jz dB (a:=o) (g:=λy=>dV<|t.2 y) (xs:=t.1) (dk:=dN o) (dv:=dV<|Ja (z,p)) rfl e.nd (cS<|by exact zb1 (zle l m) rfl) (f0 _) (λQ q=> ?_) (λQ X q=> ?_) ?_
    ·dsimp only[dg,cH,aV,df,aW,b9,aL,Qa,aM,aA,aB,aF,aJ,aK];rw[eN,d3]
     (dsimp only[aA];refine⟨by decide,?_⟩)
     exact q
    ·dsimp only[aD,aF,Qa,aJ,aB,aA,aK];rw[tz];exact q
    ·dsimp only[aL,Qa,aM,aB,aA];refine iM ?_
     (dsimp only[aF,Qa,aJ,aB,aA,aK,dW,b9,aL,aM];refine⟨trivial,?_⟩)
     rw[eN]
     (dsimp only[aA];refine⟨rfl,?_⟩)
     refine⟨by rw[Qd];exact cS<|by exact zb1 (zle l m) rfl,U _ ⟨Ja (dN o,Jc),Ja (dP p,Jc),?_⟩⟩;rw[tn E,QD];rfl
   refine vX (λT=> ?_) λT=> ?_
   ·exact G (by unfold okE;rw[T];rfl) [] _ _ λP q=>k P q
   ·refine aY (c7 b8 (cY p) H) ?_;dsimp only[jU];refine cE (λhx=> ?_) λhx=> ?_
    ·exact G (by unfold okE;rw[T];exact Y4 hx) [] _ _ λP q=>k P q
    ·rw[show stp x z t (o,p)=t from Y7 λq=>by
      have q2:(z.isR||decide (x p>0))=Jc:=q.2;rw[T,Y5 hx] at q2;exact ft q2] at k
     exact k _ ⟨_,_,rfl⟩
  ·rw[show stpB ban x z t (o,p)=t by rw[stpB,show stp x z t (o,p)=t from Y7 λq=>q.1 E,ite_self]] at k;exact k _ ⟨_,_,rfl⟩
 ·rintro L ⟨u,v,rfl⟩;rw[Ke,qP,<-mj];exact hK u v
theorem jO(e:Env1 C G1 mg mb){ban:Option Pl}{ps:List Pl}{x:Pl->Int}{ns st:List Nd}{h w:Nat}(N:NearX ps ns)(G:∀p∈ps,p.1<h/\p.2<w)(O:h<=8)(U:w<=8)(nd:st.Nodup)(hv:∀y∈st,y∈allN h w){M V b3 Y:Bool}(kq:Q (dCm (bfsF (bn ban ps) x st)) Jc):
  aQ (aO C<|n+1) "reached" [(md Nd.key (nearG ps) ns,M),(dCt ps x,V),(.list<|st.map dN,b3),(dBn ban,Y)] Q X:=by
 refine e.fn fw (bu 1 rfl) rfl λcl cu PQ PX gg=> ?_;dsimp only[fw];dsimp only[aZ,ch,bt];refine bk ?_
 (dsimp only[ir,bA,aH,aL,Qa,aM,aB,aA];refine⟨rfl,?_⟩)
 refine bk ?_
 (dsimp only[bH,fsts,dnew,aE,aI,aW,aT,bA,aH,aL,Qa,aM,aB,aA];refine⟨by decide,?_⟩)
 refine dG rfl ?_;dsimp only[fsts,aC,aG,aU,aE,aI,aT,ck,aD,aF,Qa,aJ,aB,aA,aK,bj,bB,fM,fH,fG,fF,d4,bK,fK,bL,gn,cP,fN,fJ,cw];have r:Bfs (bn ban ps) x st h w (st,λo0=>Jb):= .start nd hv;refine cK dN (λi L=>∃v c,L=(Nb "near" M (md Nd.key (nearG ps) ns)<|Nb "counts" V (dCt ps x)<|Nb "starts" c (.list<|st.map dN)<|Nb "banned" Y (dBn ban)<|Nb "came" Jc (dCm (st.take i,λo0=>Jb))<|Nb "waiting" Jc (.list<|(st.take i).map dN)<|No "start" v<|No "at" Jb<|No "here" Jb<|No "other" Jb<|No "place" Jb<|[])) _ _ ⟨_,_,rfl⟩ ?_ ?_
 ·rintro j y L R ⟨v,c,rfl⟩ K m;dsimp only[b5,aL,Qa,aM,aB,aA,bJ];have l:(st.take j).length<=16:=by
   rw[Yq];have:st.length<=h+w:=r.len;exact zle (Yr _ _)<|zle this (Kh O U)
  have J:=l5 nd R;refine jz dB (a:=y) (g:=λy=>dV<|(λo0=>Jb:Par) y) (xs:=st.take j) (dk:=dN y) (dv:= .none) rfl (nd.sublist<|Yj _ _) (cS<|by exact zb1 l rfl) (f0 _) (λQ q=> ?_) (λQ X q=> ?_) ?_
  ·exact⟨rfl,q⟩
  ·dsimp only[aD,aF,Qa,aJ,aB,aA,aK];rw[show tg0 (dN y) (Ja ["start"])=Jb by unfold tg0;rw[eN];rfl];exact q
  ·dsimp only[aL,Qa,aM,aB,aA];refine iM ?_
   (dsimp only[aF,Qa,aJ,aB,aA,aK,dW,b9,aL,aM];refine⟨trivial,?_⟩)
   rw[eN]
   (dsimp only[aA];refine⟨rfl,?_⟩)
   refine⟨by rw[Qd];exact cS<|by exact zb1 l rfl,m _ ⟨Ja (dN y,Jc),c,?_⟩⟩;have e1:=tn (s:=(st.take j,λo0=>Jb)) (a:=y) J Jb;rw[show upd ((st.take j,(λo0=>Jb:Par)):Bs).2 y Jb=λo0=>Jb from by funext z;unfold upd;split<;>rfl] at e1;rw[eK R,QD];exact Ub (λd=>(Nb "near" M (md Nd.key (nearG ps) ns)<|Nb "counts" V (dCt ps x)<|Nb "starts" c (D.list<|st.map dN)<|Nb "banned" Y (dBn ban)<|Nb "came" Jc d<|Nb "waiting" Jc (D.list<|(st.take j).map dN++[dN y])<|Nb "start" Jc (dN y)<|No "at" Jb<|No "here" Jb<|No "other" Jb<|No "place" Jb<|[])) e1
 rintro L ⟨W,c,rfl⟩;rw[Ke];refine f7 ?_;refine bk ?_;dsimp only[aN,bA,aH,aL,Qa,aM,aB,aA];refine iu rfl 18 ?_;refine fA (λk L=>X6 λ(i:Nat) (s:Bs) (B:Bool) (S o P:Option (D×Bool))=>A5 (k+i=17) (i<=s.1.length) (Bfs (bn ban ps) x st h w s) (bfs (bn ban ps) x k i s=bfsF (bn ban ps) x st)<|L=(Nb "near" B (md Nd.key (nearG ps) ns)<|Nb "counts" V (dCt ps x)<|Nb "starts" c (.list<|st.map dN)<|Nb "banned" Y (dBn ban)<|Nb "came" Jc (dCm s)<|Nb "waiting" Jc (.list<|s.1.map dN)<|No "start" W<|Nb "at" Jc (.int i)<|No "here" S<|No "other" o<|No "place" P<|[])) ?_ 18 17 _ (by decide) ⟨0,(st,λo0=>Jb),M,Jb,Jb,Jb,rfl,QV _,r,rfl,rfl⟩;rintro k L ⟨i,s,B,S,o,P,A,hi,b,F,rfl⟩ K m;have l:=b.len
 (dsimp only[aX,bw,bl,ce,aC,aE,ca,aD,aF,Qa,aJ,aB,aA,aK,cI,cN,qS];refine⟨rfl,?_⟩)
 rw[Qd];refine cE (λE=> ?_) λE=> ?_
 rotate_left
 ·have:bfs (bn ban ps) x k i s=s:=xq (by exact Kc.mp λq=>E<|Kf.mpr q);rw[this] at F;refine f7 ?_;refine cL ?_;dsimp only[b9,aL,Qa,aM,aB,aA,aF,aJ,aK,d4];rw[F];exact gg.qr kq
 obtain⟨z,T⟩:∃z,s.1[i]? =Ja z:=⟨_,Qg<|by exact Kf.mp E⟩
 obtain⟨k,rfl⟩:∃k',k=k'+1:=⟨k-1,by exact zk1 O U A l E⟩
 rw[Af T] at F;have bF:Bfs (bn ban ps) x st h w ((nbrs (bn ban ps) z).foldl (stp x z) s):=b.fold (λp H=>G p (bn_mem.mp H).1) _ T λf hf=>hf;have pF:=(ja x z (nbrs (bn ban ps) z) s).length_le;have tz:∀y t,tg0 (dN y) t=Jb:=λy t=>by unfold tg0;rw[eN];rfl
 refine bk ?_;dsimp only[aR,aD,aF,Qa,aJ,aB,aA,aK,bj];refine aY (iT (v:=dN z)<|by rw[Qu,T];rfl) ?_;rw[tz];dsimp only[bA,aH,aL,Qa,aM,aB,aA];refine bk ?_;dsimp only[bq,aN,aD,aF,Qa,aJ,aB,aA,aK,bv,dy,bA,aH,aL,aM];refine dG rfl ?_;dsimp only[fsts,aC,aG,aU,aE,aI,aT,ck,wW,aD,aF,Qa,aJ,aB,aA,aK,dA,xo];rw[f0,oa];have fin:∀u v Z,K (Nb "near" Z (md Nd.key (nearG ps) ns)<|Nb "counts" V (dCt ps x)<|Nb "starts" c (.list<|st.map dN)<|Nb "banned" Y (dBn ban)<|Nb "came" Jc (dCm<|(nbrs (bn ban ps) z).foldl (stp x z) s)<|Nb "waiting" Jc (.list<|((nbrs (bn ban ps) z).foldl (stp x z) s).1.map dN)<|No "start" W<|Nb "at" Jc (.int<|(i:Int)+1)<|Nb "here" Jc (dN z)<|No "other" u<|No "place" v<|[]):=λu v Z=>
  m k _ (by exact QI _) ⟨i+1,_,Z,_,_,_,by exact(QL _ _ _).symm.trans A,by exact zle (Kf.mp E) pF,bF,F,rfl⟩
 by_cases I:z∈ns
 ·rw[mw dB I];dsimp only[BN];exact zx G b T (by exact Kh O U) λu v=>fin u v _
 ·rw[ou dB I];dsimp only[BG,br,bA,cw];have:=fin o P B;rw[mj,N.out z I] at this;exact this
end
structure Way where
 R:List Pl
 L:List Pl
 E:Nd
noncomputable def wayO(w:Way)(k:Nd->Pl->Way):Option (Nd×Pl)->Way
 |none=>w
 |some e=>k e.1 e.2
noncomputable def wayF(s:Bs):Nat->Nd->Way
 |0,y=>⟨[],[],y⟩
 |k+1,y=>wayO ⟨[],[],y⟩ (λz p=>bif y.isR then⟨(wayF s k z).R,p::(wayF s k z).L,(wayF s k z).E⟩ else⟨p::(wayF s k z).R,(wayF s k z).L,(wayF s k z).E⟩) (s.2 y)
theorem kU{s:Bs}(h:s.2 y=Jb):wayF s k y=⟨[],[],y⟩:=by
 induction k using Nat.casesOn with
 |zero=>rfl
 |succ k=>show wayO _ _ (s.2 y)=_;rw[h];rfl
theorem kE{s:Bs}{y z:Nd}(h:s.2 y=Ja (z,p)):wayF s (k+1) y=bif y.isR then⟨(wayF s k z).R,p::(wayF s k z).L,(wayF s k z).E⟩ else⟨p::(wayF s k z).R,(wayF s k z).L,(wayF s k z).E⟩:=by
 show wayO _ _ (s.2 y)=_;rw[h];rfl
noncomputable def ind(p:Prop)[Decidable p]:Int:=if p then 1 else 0
theorem fz{p:Prop}[Decidable p](h:p):ind p=1:=Y8 h
theorem dJ{p:Prop}[Decidable p](h:¬p):ind p=0:=Y7 h
noncomputable abbrev cR(l:List Pl)(i:Nat):Int:=(l.countP λp=>decide (p.1=i):Nat)
noncomputable abbrev cC(l:List Pl)(i:Nat):Int:=(l.countP λp=>decide (p.2=i):Nat)
theorem l9(p:Pl)(l:List Pl)(i:Nat):cR (p::l) i=cR l i+ind (p.1=i):=by
 unfold cR ind;rw[List.countP_cons];by_cases h:p.1=i
 ·rw[Y8 h,Y8 (Y4 h)];exact rfl
 ·rw[Y7 h,Y7 (by simpa using h)];exact rfl
theorem m7(p:Pl)(l:List Pl)(i:Nat):cC (p::l) i=cC l i+ind (p.2=i):=by
 unfold cC ind;rw[List.countP_cons];by_cases h:p.2=i
 ·rw[Y8 h,Y8 (Y4 h)];exact rfl
 ·rw[Y7 h,Y7 (by simpa using h)];exact rfl
structure WayOK(ps:List Pl)(x:Pl->Int)(st:List Nd)(s:Bs)(j:Nat)(y:Nd)(W:Way):Prop where
 e:W.E∈st
 r:∀p∈W.R,p∈ps
 l:∀p∈W.L,p∈ps/\0<x p
 nd:W.L.Nodup
 at_:∀p∈W.L,∃i,i<=j/\s.1[i]? =Ja (.r p.1)
 row:∀i,cR W.R i-cR W.L i=ind (W.E= .r i)-ind (y= .r i)
 col:∀i,cC W.R i-cC W.L i=ind (y= .c i)-ind (W.E= .c i)
theorem vL{p:Pl}(h:(y,p)∈nbrs ps z):p∈ps/\((y= .c p.2/\z= .r p.1)\/(y= .r p.1/\z= .c p.2)):=by
 induction z with
 |r i=>
  obtain⟨q,N,Y⟩:=Ql.mp h;cases Y;obtain⟨J,w⟩:=Qm.mp N;exact⟨J,.inl ⟨rfl,by rw[Y6 w]⟩⟩
 |c i=>
  obtain⟨q,N,Y⟩:=Ql.mp h;cases Y;obtain⟨J,w⟩:=Qm.mp N;exact⟨J,.inr ⟨rfl,by rw[Y6 w]⟩⟩
theorem pK{x:Pl->Int}{s:Bs}(b:Bfs ps x st h w s):∀ (k j:Nat) (y:Nd),s.1[j]? =Ja y->j<k->WayOK ps x st s j y (wayF s k y)
 |0=>λj y o0 M=>absurd M<|Wf _
 |k+1=>λj y Q M=>by
  rcases b.par j y Q with⟨N,Y⟩|⟨z,p,i,N,Y,J,O,B⟩
  ·rw[kU N];exact⟨Y,λp D=>(bQ D),λp D=>(bQ D),.nil,λp D=>(bQ D),λi=>(Yx _).symm,λi=>(Yx _).symm⟩
  ·have W:=pK b k i z J (by exact zll Y<|zs M);rw[kE N];generalize wayF s k z=V at W ⊢;obtain⟨D,⟨rfl,rfl⟩|⟨rfl,rfl⟩⟩:=vL O
   ·show WayOK ps x st s j (.c p.2) ⟨p::V.R,V.L,V.E⟩;refine⟨W.e,λq o=> ?_,W.l,W.nd,λq o=> ?_,λm=> ?_,λm=> ?_⟩
    ·cases o with
     |head=>exact D
     |tail _ o=>exact W.r q o
    ·obtain⟨G,C,S⟩:=W.at_ q o;exact⟨G,by exact zle C<|Kv Y,S⟩
    ·have:=W.row m;dsimp only;rw[l9,dJ (p:=Nd.c p.2= .r m) (λq=>nomatch q)];by_cases q:p.1=m
     ·subst q;rw[fz (p:=Nd.r p.1= .r p.1) rfl] at this;rw[fz (p:=p.1=p.1) rfl];exact zw1 this
     ·rw[dJ (p:=Nd.r p.1= .r m) (λz=>q<|Nd.r.inj z)] at this;rw[dJ q];exact zw2 this
    ·have:=W.col m;dsimp only;rw[m7];rw[dJ (p:=Nd.r p.1= .c m) (λq=>nomatch q)] at this;by_cases q:p.2=m
     ·subst q;rw[fz (p:=Nd.c p.2= .c p.2) rfl,fz (p:=p.2=p.2) rfl];exact zw5 this
     ·rw[dJ (p:=Nd.c p.2= .c m) (λz=>q<|Nd.c.inj z),dJ q];exact zw2 this
   ·show WayOK ps x st s j (.r p.1) ⟨V.R,p::V.L,V.E⟩;have hx:0<x p:=by
     have B:(Nd.isR (.c p.2)||decide (x p>0))=Jc:=B;exact Y6 B
    refine⟨W.e,W.r,λq o=> ?_,Qy.mpr ⟨λq=> ?_,W.nd⟩,λq o=> ?_,λm=> ?_,λm=> ?_⟩
    ·cases o with
     |head=>exact⟨D,hx⟩
     |tail _ o=>exact W.l q o
    ·obtain⟨G,C,S⟩:=W.at_ p q;have:=(List.getElem?_inj (QC.mp Q).1 b.nd).mp (Q.trans S.symm);exact KH _<|zll Y (zle (QT this) C)
    ·cases o with
     |head=>exact⟨j,QA _,Q⟩
     |tail _ o=>obtain⟨G,C,S⟩:=W.at_ q o;exact⟨G,by exact zle C<|Kv Y,S⟩
    ·have:=W.row m;dsimp only;rw[l9];rw[dJ (p:=Nd.c p.2= .r m) (λq=>nomatch q)] at this;by_cases q:p.1=m
     ·subst q;rw[fz (p:=Nd.r p.1= .r p.1) rfl,fz (p:=p.1=p.1) rfl];exact zw3 this
     ·rw[dJ (p:=Nd.r p.1= .r m) (λz=>q<|Nd.r.inj z),dJ q];exact zw4 this
    ·have:=W.col m;dsimp only;rw[m7,dJ (p:=Nd.r p.1= .c m) (λq=>nomatch q)];by_cases q:p.2=m
     ·subst q;rw[fz (p:=Nd.c p.2= .c p.2) rfl] at this;rw[fz (p:=p.2=p.2) rfl];exact zw7 this
     ·rw[dJ (p:=Nd.c p.2= .c m) (λz=>q<|Nd.c.inj z)] at this;rw[dJ q];exact zw4 this
def incs(δ:Int)(R:List Pl)(x:Pl->Int):Pl->Int:=R.foldl (λx p=>upd x p (x p+δ)) x
noncomputable def sumOn(f:Pl->Bool)(ps:List Pl)(x:Pl->Int):Int:=((ps.filter f).map x).sum
theorem om{f:Pl->Bool}{x y:Pl->Int}(h:∀p∈ps,x p=y p):sumOn f ps x=sumOn f ps y:=by
 unfold sumOn;rw[Qj λp D=>h p (Qm.mp D).1]
theorem cZ(f:Pl->Bool)(q:Pl)(ps:List Pl)(x:Pl->Int):sumOn f (q::ps) x=(if f q then x q else 0)+sumOn f ps x:=by
 unfold sumOn;by_cases h:f q=Jc
 ·rw[Ko h,Y8 h];rfl
 ·rw[Kq h,Y7 h,Wi]
theorem gu{f:Pl->Bool}{x:Pl->Int}:∀ {ps:List Pl},ps.Nodup->p∈ps->sumOn f ps (upd x p (x p+δ))=sumOn f ps x+if f p then δ else 0:=λ{ps}=>by
 induction ps with
 |nil=>exact λo0 h=>bQ h
 |cons q ps i=>
  intro nd D;obtain⟨n,I⟩:=Qy.mp nd;rw[cZ,cZ];by_cases e:q=p
  ·subst e;rw[om (y:=x) λr T=>cm _ _ λ(z:r=q)=>n<|z▸T,bU];by_cases z:f q=Jc
   ·rw[Y8 z,Y8 z,Y8 z];exact Int.add_right_comm _ _ _
   ·rw[Y7 z,Y7 z,Y7 z,Ka]
  ·rw[cm _ _ e,i I ((Qt.mp D).resolve_left λz=>e z.symm)];exact(KR _ _ _).symm
theorem fD{f:Pl->Bool}{ps:List Pl}(nd:ps.Nodup):∀ {R:List Pl} {x:Pl->Int},(∀p∈R,p∈ps)->sumOn f ps (incs δ R x)=sumOn f ps x+δ*(R.countP f:Nat)
 |[],x,_=>by show _=_+δ*0;rw[Int.mul_zero,Ka];rfl
 |p::R,x,h=>by
  show sumOn f ps (incs δ R<|upd x p (x p+δ))=_;rw[fD nd λq o=>h q<|.tail _ o,gu nd<|h p (.head _),List.countP_cons]
  split
  ·rw[Int.natCast_add,Int.mul_add];show _=_+(_+δ*1);exact zr10 _ _ _
  ·rw[Nat.add_zero];exact Ub (· +_)<|Ka _
theorem mP(h:0<=δ):∀ {R:List Pl} {x:Pl->Int} (q:Pl),x q<=incs δ R x q
 |[],x,q=>QZ _
 |p::R,x,q=>by
  refine QP ?_<|mP h (R:=R) (x:=upd x p<|x p+δ) q;by_cases e:q=p
  ·subst e;rw[bU];exact Kr h
  ·rw[cm _ _ e];exact QZ _
theorem eT:∀ {R:List Pl} {x:Pl->Int} {q:Pl},q∉R->incs δ R x q=x q
 |[],x,q,_=>rfl
 |p::R,x,q,h=>(eT (R:=R) (x:=upd x p (x p+δ)) λz=>h (.tail _ z)).trans (cm _ _ λ(z:q=p)=>h (z▸ .head _))
theorem o7:∀ {R:List Pl} {x:Pl->Int} {q:Pl},R.Nodup->q∈R->incs δ R x q=x q+δ:=λ{R}=>by
 induction R with
 |nil=>exact λo0 h=>bQ h
 |cons p R i=>
  intro x q nd h;obtain⟨n,z⟩:=Qy.mp nd;show incs δ R (upd x p<|x p+δ) q=_;by_cases e:q=p
  ·subst e;rw[eT n,bU]
  ·rw[i z ((Qt.mp h).resolve_left e),cm _ _ e]
theorem lR(δ:Int){R:List Pl}(x:Pl->Int)(h:R[j]? =Ja p):incs δ (R.take (j+1)) x=upd (incs δ (R.take j) x) p (incs δ (R.take j) x p+δ):=gp _ x h
theorem zg{xs:List Nd}(nd:xs.Nodup):((xs.filter λy=>y.isR==b).map Nd.no).Nodup:=by
 rw[QQ,Wq];refine(QQ.mp nd).filter _|>.imp_of_mem λ{u v} d hv h q=>h ?_
 have N:(u.isR==b)=Jc:=(Qm.mp d).2;have p:(v.isR==b)=Jc:=(Qm.mp hv).2;have J:=Y9 N;have w:=Y9 p
 rcases u with⟨⟩<;>rcases v with⟨⟩<;>first|(subst J;cases w;done)|(subst J;cases w;done)|(have:_=_:=q;cases this;rfl)
theorem uG(y:Nd)(t:Tag):tg0 (dN y) t=Jb:=by unfold tg0;rw[eN];rfl
theorem xN(y:Pl)(t:Tag):tg0 (dP y) t=Jb:=rfl
theorem u8{L:Type}[DecidableEq L]{xs:List L}{x:L}(h:x∈xs):withx xs x=xs:=Y8 h
theorem ve{ps:List Pl}{x:Pl->Int}{p:Pl}(h:p∈ps)(v:Int):md pkey (upd (λp=>D.int (x p)) p (.int v)) (withx ps p)=dCt ps (upd x p v):=by
 rw[u8 h,pg D.int x p v]
noncomputable def wB(b:Bool):String:=bif b then "row" else "column"
noncomputable def mkN(b:Bool)(k:Nat):Nd:=bif b then .r k else .c k
theorem yc{y:Nd}(h:y.isR=b):mkN b y.no=y:=by subst h;rcases y with⟨⟩<;>rfl
theorem sZ(b:Bool)(k:Nat):(mkN b k).no=k/\(mkN b k).isR=b:=by rcases b with⟨⟩<;>exact⟨rfl,rfl⟩
theorem yI(y:Nd)(b:Bool):D.eqv (.str y.wd) (.str (wB b))=(y.isR==b):=by
 induction b with
 |true=>exact(rc y).trans (by cases y.isR<;>rfl)
 |false=>exact(qq y).trans (by cases y.isR<;>rfl)
theorem zY(b:Bool):D.okd 40 (.str (wB b))=Jc:=by
 induction b with
 |true=>exact mu
 |false=>exact mB
def numF(b:Bool)(m:Nat)(xs:List Nd):List Nat:=(Qc m).filter λk=>decide<|mkN b k∈xs
theorem wu{xs:List Nd}(nd:xs.Nodup)(L:∀y∈xs,y.isR=b->y.no<m){j:List Int}(D:j.Perm ((xs.filter λy=>y.isR==b).map λy=>(y.no:Int)))(s:j.Pairwise (· <= ·)):j=(numF b m xs).map λ(k:Nat)=>(k:Int):=by
 have Y:((xs.filter λy=>y.isR==b).map λy=>(y.no:Int)).Nodup:=by
  rw[show((xs.filter λy=>y.isR==b).map λy=>(y.no:Int))=((xs.filter λy=>y.isR==b).map Nd.no).map λ(k:Nat)=>(k:Int) from by rw[QE];rfl];rw[QQ,Wq];exact(QQ.mp<|zg nd).imp λh q=>h<|Wp.mp q
 have r:((numF b m xs).map λ(k:Nat)=>(k:Int)).Pairwise (· < ·):=by
  rw[Wq];exact(List.pairwise_lt_range.filter _).imp λh=>Kf.mpr h
 have z:((numF b m xs).map λ(k:Nat)=>(k:Int)).Nodup:=QQ.mpr (r.imp λh=>Int.ne_of_lt h);refine List.Perm.eq_of_pairwise (le:=(· <= ·)) (λa b o0 o0 N p=>Wz N p) s (r.imp λh=>Yy h)<|D.trans ((List.perm_ext_iff_of_nodup Y z).mpr λa=> ?_);rw[Ql,Ql]
 constructor
 ·rintro ⟨y,W,rfl⟩;obtain⟨N,p⟩:=Qm.mp W;have p:=Y9 p;exact⟨y.no,Qm.mpr ⟨Qi.mpr<|L y N p,Y4<|by rw[yc p];exact N⟩,rfl⟩
 ·rintro ⟨k,M,rfl⟩;have N:=Y6 (Qm.mp M).2;exact⟨mkN b k,Qm.mpr ⟨N,by rw[(sZ b k).2];exact beq_self_eq_true b⟩,by rw[(sZ b k).1]⟩
theorem xz(xs:List Nd):(xs.map Nd.key).map keyDd=xs.map dN:=by
 rw[QE];refine Qj λy o0=> ?_
 rcases y with⟨⟩<;>rfl
theorem xp(y:Nd):y.key.length=2:=by rcases y with⟨⟩<;>rfl
section
variable{C:Cx}{mg mb:Jq->Option Jf}{n:Nat}{Q:D->Bool->Prop}{X:DX}
theorem kl(e:Env1 C G1 mg mb){s:Bs}(nd:s.1.Nodup)(h:s.1.length<=16)(L:∀y∈s.1,y.isR=b->y.no<m){d V:Bool}(k:Q (dNs (numF b m s.1)) Jc):aQ (aO C (n+1)) "numbers_of" [(dCm s,d),(.str (wB b),V)] Q X:=by
 refine e.fn eY (bu 4 rfl) rfl λl c P PX g=> ?_;dsimp only[eY];dsimp only[aZ,ch,bt];refine bM ?_
 (dsimp only[bl,sh,aH,aC,aE,ca];refine⟨rfl,?_⟩)
 refine cF rfl ?_
 (dsimp only[fsts,dW,aC,aG,aU,aE,aI,aT,ck,bl,ey,ca,aD,aF,Qa,aB,aA,aK,dA,Bz,br,cw];refine⟨rfl,?_⟩)
 refine⟨⟨by rw[Qd];exact dM<|by exact zb2 h rfl,λq o=> ?_⟩,?_⟩
 ·obtain⟨y,o0,rfl⟩:=Ql.mp o;rw[xp];exact dM<|by decide
 rw[xz];refine cg dN (λy=> .int (y.no:Int)) (λy=>y.isR==b) (λy W=> ?_) ?_
 ·rw[Bi];dsimp only[bp,BH,f6,aM,Qa,aL,aB,aA,bJ];refine⟨λT Y=> ?_,λo0 K k=> ?_⟩
  ·dsimp only[tstD];dsimp only[aX,bw,ej,deq,aD,aJ,Qa,aF,aA,aB,aK];refine⟨⟨pR y,zY b⟩,?_⟩;rw[yI];exact Y
  ·dsimp only[elD];dsimp only[aD,aJ,Qa,aF,aB,aA,aK,bv];exact k
 ·refine g7 (fx _ _) ?_;refine⟨?_,λj N p=> ?_⟩
  ·rw[Qd];exact QX (Wm _ _)<|by exact zb1 h rfl
  ·rw[wu nd L N p,QE];exact g.qr k
theorem sI(e:Env1 C G1 mg mb){ps:List Pl}{x:Pl->Int}{st:List Nd}{h w:Nat}{s:Bs}(b:Bfs ps x st h w s)(m:h+w<=16){j:Nat}{y:Nd}(S:s.1[j]? =Ja y){M V:Bool}(G:Q (.tup [.list ((wayF s 17 y).R.map dP),.list ((wayF s 17 y).L.map dP),dN (wayF s 17 y).E]) Jc):
  aQ (aO C<|n+1) "way_to" [(dCm s,M),(dN y,V)] Q X:=by
 refine e.fn jc (bu 2 rfl) rfl λF I P PX g=> ?_;dsimp only[jc];dsimp only[aZ,ch,bt];refine bk ?_
 (dsimp only[bH,fsts,dnew,aE,aI,aW,aT,bA,aH,aL,Qa,aM,aB,aA];refine⟨by decide,?_⟩)
 refine bk ?_
 (dsimp only[bH,fsts,dnew,aE,aI,aW,aT,bA,aH,aL,Qa,aM,aB,aA];refine⟨by decide,?_⟩)
 refine bk ?_;dsimp only[aD,aF,Qa,aJ,aB,aA,aK];rw[uG];dsimp only[bA,aH,aL,Qa,aM,aB,aA];have H:=b.len;have c:j<s.1.length:=(QC.mp S).1;refine iu rfl 18 ?_;refine fA (λk q=>X6 λ(f:Nat) (z:Nd) (a L:List Pl) (R u:Option (D×Bool))=>A6 (k<f) (s.1[k]? =Ja z) (f<=17) (a.length+f<=17/\L.length+f<=17) (wayF s 17 y=⟨a++(wayF s f z).R,L++(wayF s f z).L,(wayF s f z).E⟩)<|q=(Nb "came" M (dCm s)<|Nb "goal" V (dN y)<|Nb "raised" Jc (.list<|a.map dP)<|Nb "lowered" Jc (.list<|L.map dP)<|Nb "here" Jc (dN z)<|No "ahead" R<|No "place" u<|[])) ?_ 18 j _ (by exact zll c<|zle H (zb2 m rfl)) ⟨17,y,[],[],Jb,Jb,by exact zll c<|zle H (zb2 m rfl),S,QA _,⟨by simp,by simp⟩,rfl,rfl⟩;rintro k q ⟨f,z,a,L,R,u,W,T,E,⟨l,U⟩,d,rfl⟩ K v;have Z:=Qz T;dsimp only[cW,bw,aR,aD,aF,Qa,aJ,aB,aA,aK];refine aY (c7 dB (f0 z) Z) ?_;skip
 rcases b.par k z T with⟨N,Y⟩|⟨o,p,i,N,Y,J,A,O⟩
 ·rw[N];rw[kU N,QH,QH] at d;rw[d] at G;refine⟨rfl,?_⟩;dsimp only[dV,D.isNone];dsimp only[cy,aB];refine f7 ?_;refine cL ?_;dsimp only[dg,cH,aV,df,aW,b9,aL,Qa,aM,aB,aA,aF,aJ,aK,bL];rw[eN]
  (dsimp only[aA];refine⟨by decide,?_⟩)
  exact g.qr G
 ·rw[N];refine⟨rfl,?_⟩;dsimp only[dV,D.isNone];dsimp only[lr,aA];obtain⟨f,rfl⟩:∃B,f=B+1:=⟨f-1,by exact zpr W⟩
  rw[kE N] at d;refine dt rfl ?_;dsimp only[aR,aD,aF,Qa,aJ,aB,aA,aK,dA];rw[c7 dB (f0 z) Z,N];dsimp only[dV];dsimp only[cV,b6,tgl,bC,bD,f6,bJ];rw[eN,d3];dsimp only[cJ,aA,bA,aH,aL,Qa,aM,aB];refine cp ?_;dsimp only[aX,bw,ej,deq,cf,aR,aN,aD,aF,Qa,aB,aA,aK];refine aY (qO _) ?_;refine f9 ?_;refine⟨⟨pR z,mB⟩,?_⟩;rw[qq];refine oX (λr=> ?_) λr=> ?_
  ·rw[r] at d;refine iM ?_
   (dsimp only[aF,Qa,aB,aA,aK,dW,b9,aL];refine⟨trivial,?_⟩)
   rw[d3]
   (dsimp only[aA];refine⟨rfl,?_⟩)
   refine⟨by rw[Qd];exact cS<|by exact zb1 (zle (QO _ _) U) rfl,?_⟩;refine f7 ?_;refine bk ?_;dsimp only[aD,aF,Qa,aB,aA,aK];rw[uG];dsimp only[bA,aH,aL,Qa,aB,aA];refine v i _ Y ⟨f,o,a,L++[p],Ja (dN o,Jc),Ja (dP p,Jc),by exact zll Y<|zs W,J,by exact Kj E,⟨by exact Kj l,by rw[QG,WH];exact zle (QT<|QL _ _ _) U⟩,?_,?_⟩
   ·rw[Kn];exact d
   ·rw[QD];rfl
  ·rw[r] at d;refine iM ?_
   (dsimp only[aF,Qa,aB,aA,aK,dW,b9,aL];refine⟨trivial,?_⟩)
   rw[d3]
   (dsimp only[aA];refine⟨rfl,?_⟩)
   refine⟨by rw[Qd];exact cS<|by exact zb1 (zle (QO _ _) l) rfl,?_⟩;refine f7 ?_;refine bk ?_;dsimp only[aD,aF,Qa,aB,aA,aK];rw[uG];dsimp only[bA,aH,aL,Qa,aB,aA];refine v i _ Y ⟨f,o,a++[p],L,Ja (dN o,Jc),Ja (dP p,Jc),by exact zll Y<|zs W,J,by exact Kj E,⟨by rw[QG,WH];exact zle (QT<|QL _ _ _) l,by exact Kj U⟩,?_,?_⟩
   ·rw[Kn];exact d
   ·rw[QD];rfl
theorem pJ(e:Env1 C G1 mg mb){ps:List Pl}(nd:ps.Nodup)(l:ps.length<=64){x:Pl->Int}{R L:List Pl}(P:∀p∈R,p∈ps)(o:∀p∈L,p∈ps){d V b:Bool}{Q:D->Prop}(T:Q (dCt ps (incs (-a) L (incs a R x)))):
  (aQ<|aO C (n+1)).io "move" 0 [(dCt ps x,Jc),(.list<|R.map dP,d),(.list<|L.map dP,V),(.int a,b)] Q:=by
 refine e.fnI l4 (bu 3 rfl) (x:="counts") rfl (by decide) rfl rfl ?_;dsimp only[l4];dsimp only[aZ,ch,bt];refine dG rfl ?_;dsimp only[fsts,aC,aG,aU,aE,aI,aT,ck,aD,aF,Qa,aJ,aB,aA,aK,bj,bB,fM,fH,fG,fF,d4,bK,fK,bL,cM,cJ,gn,cP,fN,fJ,cw];refine cK dP (λi A=>∃u c,A=(Nb "counts" Jc (dCt ps<|incs a (R.take i) x)<|Nb "raised" c (.list<|R.map dP)<|Nb "lowered" V (.list<|L.map dP)<|Nb "amount" b (.int a)<|No "place" u<|[])) _ _ ⟨_,_,rfl⟩ ?_ ?_
 ·rintro j p A h ⟨u,c,rfl⟩ K k;rw[lR a x h] at k;have U:=P p<|Qz h;generalize incs a (R.take j) x=x at k ⊢;dsimp only[b5,aL,Qa,aM,aA,aB,bJ];refine jz b8 (a:=p) (g:=λp=> .int (x p)) (xs:=ps) (dk:=dP p) (dv:= .int (x p+a)) rfl nd (cS<|by exact zb1 l rfl) (cY p) (λQ q=> ?_) (λQ X q=> ?_) ?_
  ·dsimp only[oF,bq,aD,aF,Qa,aB,aA,aK,bv,aR,dA];refine aY (c7 b8 (cY p) U) ?_
   (dsimp only[dy];refine⟨rfl,?_⟩)
   exact q
  ·dsimp only[aD,aF,Qa,aA,aB,aK];exact q
  ·dsimp only[aL,Qa,aB,aA];rw[ve U];exact k _ ⟨_,_,rfl⟩
 rintro A ⟨u,c,rfl⟩;rw[Ke];generalize incs a R x=x at T ⊢;refine f7 ?_;refine dG rfl ?_;dsimp only[fsts,aC,aG,aU,aE,aI,aT,ck,aD,aF,Qa,aJ,aB,aA,aK,bj,bB,fM,fH,fG,fF,d4,bK,bL,fK,cM,cJ,gn,fN,fJ,cw];refine cK dP (λi A=>∃u Z,A=(Nb "counts" Jc (dCt ps<|incs (-a) (L.take i) x)<|Nb "raised" c (.list<|R.map dP)<|Nb "lowered" Z (.list<|L.map dP)<|Nb "amount" b (.int a)<|No "place" u<|[])) _ _ ⟨_,_,rfl⟩ ?_ ?_
 ·rintro j p A h ⟨u,Z,rfl⟩ K k;rw[lR (-a) x h] at k;have U:=o p<|Qz h;generalize incs (-a) (L.take j) x=x at k ⊢;dsimp only[b5,aL,Qa,aM,aA,aB,bJ];refine jz b8 (a:=p) (g:=λp=> .int (x p)) (xs:=ps) (dk:=dP p) (dv:= .int (x p+ -a)) rfl nd (cS<|by exact zb1 l rfl) (cY p) (λQ q=> ?_) (λQ X q=> ?_) ?_
  ·dsimp only[oF,bq,aD,aF,Qa,aB,aA,aK,bv,aR,dA];refine aY (c7 b8 (cY p) U) ?_
   (dsimp only[gX];refine⟨rfl,?_⟩)
   rw[Ks];exact q
  ·dsimp only[aD,aF,Qa,aA,aB,aK];exact q
  ·dsimp only[aL,Qa,aB,aA];rw[ve U];exact k _ ⟨_,_,rfl⟩
 rintro A ⟨u,Z,rfl⟩;rw[Ke];exact⟨rfl,T⟩
end
theorem k9{r:Nat->Int}:∀ {l:List Nat},l.Nodup->(l.map (upd r i (r i+δ))).sum=(l.map r).sum+if i∈l then δ else 0
 |[]=>λo0=>rfl
 |k::l=>λnd=>by
  obtain⟨n,I⟩:=Qy.mp nd;rw[Qq,QY,Qq,QY,k9 I];by_cases e:k=i
  ·subst e;rw[bU,Y7 n,Y8 (.head _)];exact zr12 _ _ _
  ·rw[cm _ _ e];by_cases q:i∈l
   ·rw[Y8 q,Y8 (.tail _ q)];exact(KR _ _ _).symm
   ·rw[Y7 q,Y7 (λz=>(Qt.mp z).elim (λz=>e z.symm) q)];exact(KR _ _ _).symm
theorem ni{q:Nat}{v:Int}:∀ {l:List Nat},l.Nodup->(l.map λi=>if q=i then v else 0).sum=if q∈l then v else 0
 |[]=>λo0=>rfl
 |k::l=>λnd=>by
  obtain⟨n,I⟩:=Qy.mp nd;rw[Qq,QY,ni I];by_cases e:q=k
  ·subst e;rw[Y8 rfl,Y7 n,Y8 (.head _)];exact Ka _
  ·rw[Y7 e];by_cases z:q∈l
   ·rw[Y8 z,Y8 (.tail _ z)];exact Wi _
   ·rw[Y7 z,Y7 (λy=>(Qt.mp y).elim e z)];exact rfl
theorem du{f:Pl->Nat}{x:Pl->Int}{l:List Nat}(nd:l.Nodup):∀ps:List Pl,(l.map λi=>sumOn (λp=>decide (f p=i)) ps x).sum=sumOn (λp=>decide (f p∈l)) ps x
 |[]=>ic l
 |p::ps=>by
  rw[cZ,<-du nd ps,show(l.map λi=>sumOn (λp=>decide<|f p=i) (p::ps) x)=l.map λi=>(if f p=i then x p else 0)+sumOn (λp=>decide<|f p=i) ps x from Qj λi o0=> ?_,<-iz,ni nd]
  ·by_cases h:f p∈l
   ·rw[Y8 h,Y8 (Y4 h)]
   ·rw[Y7 h,Y7 (by simpa using h)]
  ·rw[cZ];by_cases h:f p=i
   ·rw[Y8 h,Y8 (Y4 h)]
   ·rw[Y7 h,Y7 (by simpa using h)]
theorem hX{f g:Pl->Bool}{x:Pl->Int}:∀ {ps:List Pl},(∀p∈ps,f p=g p\/x p=0)->sumOn f ps x=sumOn g ps x
 |[]=>λo0=>rfl
 |p::ps=>λh=>by
  rw[cZ,cZ,hX λq o=>h q (.tail _ o)]
  rcases h p (.head _) with e|e
  ·rw[e]
  ·rw[e];split<;>split<;>rfl
theorem rh{L:Type}{f:L->Int}:∀ {l:List L},(∀a∈l,0<=f a)->(l.map f).sum<=0->∀a∈l,f a=0:=λ{l} h i a T=>by
 induction l with
 |nil=>exact bQ T
 |cons b l W=>
  rw[Qq,QY] at i;have N:=h b<|.head _;have p:=jx λc Z=>h c<|.tail _ Z
  rcases Qt.mp T with e|T
  ·rw[e];exact Wz (QP (Kr p) i) N
  ·exact W (λc Z=>h c<|.tail _ Z) (QP (Int.le_add_of_nonneg_left N) i) T
theorem nU{f:Nat->Int}{p:Nat->Bool}:∀ {l:List Nat},(∀a∈l,p a=Jd->f a=0)->((l.filter p).map f).sum=(l.map f).sum
 |[]=>λo0=>rfl
 |a::l=>λh=>by
  rw[Qq,QY];have i:=nU λb v=>h b<|.tail _ v
  induction D:p a with
  |true=>rw[Ko D,Qq,QY,i]
  |false=>rw[Kq (by rw[D];exact QF),i,h a (.head _) D,Wi]
set_option genCtorIdx false in
inductive Out where
 |tab(x:Pl->Int)
 |no(pa pb:Nat->Bool)
noncomputable abbrev Out.ctorIdx(x:Out):Nat:=Out.casesOn x (λo0=>0) (λo0 o0=>1)
noncomputable def stF(h:Nat)(r:Nat->Int):List Nd:=((Qc h).filter λi=>decide (r i>0)).map .r
abbrev cameF(ps:List Pl)(h:Nat)(x:Pl->Int)(r:Nat->Int):Bs:=bfsF ps x<|stF h r
def goalF(w:Nat)(c:Nat->Int)(B:Bs):List Nat:=(numF Jd w B.1).filter λj=>decide<|c j>0
abbrev wayG(B:Bs)(g:Nat):Way:=wayF B 17<|.c g
def amt(x:Pl->Int)(r c:Nat->Int)(W:Way)(g:Nat):Int:=lmin (r W.E.no::c g::W.L.map x)
noncomputable def outG(o:Out)(k:Nat->Out):List Nat->Out
 |[]=>o
 |g::_=>k g
noncomputable def outF(ps:List Pl)(h w:Nat):Nat->(Pl->Int)->(Nat->Int)->(Nat->Int)->Out
 |0,x,_,_=> .tab x
 |k+1,x,r,c=>if((Qc h).map r).sum>0 then
   outG (.no (λi=>decide (Nd.r i∈(cameF ps h x r).1)) (λj=>decide (Nd.c j∈(cameF ps h x r).1))) (λg=>outF ps h w k (incs (-amt x r c (wayG (cameF ps h x r) g) g) (wayG (cameF ps h x r) g).L (incs (amt x r c (wayG (cameF ps h x r) g) g) (wayG (cameF ps h x r) g).R x))
    (upd r (wayG (cameF ps h x r) g).E.no (r (wayG (cameF ps h x r) g).E.no-amt x r c (wayG (cameF ps h x r) g) g)) (upd c g (c g-amt x r c (wayG (cameF ps h x r) g) g))) (goalF w c (cameF ps h x r))
  else .tab x
abbrev rowS(ps:List Pl)(x:Pl->Int)(i:Nat):Int:=sumOn (λp=>decide (p.1=i)) ps x
abbrev colS(ps:List Pl)(x:Pl->Int)(j:Nat):Int:=sumOn (λp=>decide (p.2=j)) ps x
structure Fill(ps:List Pl)(h w:Nat)(R C:Nat->Int)(x:Pl->Int)(r c:Nat->Int):Prop where
 x0:∀p∈ps,0<=x p
 r0:∀i,i<h->0<=r i
 c0:∀j,j<w->0<=c j
 row:∀i,i<h->rowS ps x i+r i=R i
 col:∀j,j<w->colS ps x j+c j=C j
 eq:((Qc h).map r).sum=((Qc w).map c).sum
structure Sz(ps:List Pl)(h w:Nat):Prop where
 nd:ps.Nodup
 mem:∀p∈ps,p.1<h/\p.2<w
 h8:h<=8
 w8:w<=8
def Good(ps:List Pl)(h w:Nat)(R C:Nat->Int):Out->Prop
 | .tab x=>(∀p∈ps,0<=x p)/\(∀i,i<h->rowS ps x i=R i)/\∀j,j<w->colS ps x j=C j
 | .no a b=>(∀p∈ps,a p.1=Jc->b p.2=Jc)/\0<(((Qc h).filter a).map R).sum-(((Qc w).filter b).map C).sum
theorem xS(h:Nat)(r:Nat->Int):(stF h r).Nodup:=by
 unfold stF;rw[QQ,Wq];exact((QQ.mp Km).filter _).imp λh q=>h<|Nd.r.inj q
theorem tZ{r:Nat->Int}(W:y∈stF h r):∃i,y= .r i/\i<h/\0<r i:=by
 obtain⟨i,t,rfl⟩:=Ql.mp W;obtain⟨N,p⟩:=Qm.mp t;exact⟨i,rfl,Qi.mp N,Y6 p⟩
theorem sz{r:Nat->Int}:∀y∈stF h r,y∈allN h w:=λy W=>by
 obtain⟨i,rfl,N,o0⟩:=tZ W;exact Qf _<|Ql.mpr ⟨i,Qi.mpr N,rfl⟩
section
variable{ps:List Pl}{h w:Nat}{R C:Nat->Int}{x:Pl->Int}{r c:Nat->Int}
theorem mL(S:Sz ps h w):Bfs ps x (stF h r) h w (cameF ps h x r)/\∀z∈(cameF ps h x r).1,∀e∈nbrs ps z,okE x z e.2=Jc->e.1∈(cameF ps h x r).1:=
 qa S.mem (Kh S.h8 S.w8) 17 0 _ (.start (xS h r) sz) (λi z t=>absurd t<|Wf _) (QV _) (by decide)
theorem AF(S:Sz ps h w)(F:Fill ps h w R C x r c)(s:((Qc h).map r).sum>0)(g:goalF w c (cameF ps h x r)=[]):
  Good ps h w R C (.no (λi=>decide<|Nd.r i∈(cameF ps h x r).1) λj=>decide<|Nd.c j∈(cameF ps h x r).1):=by
 obtain⟨b,M⟩:=mL (x:=x) (r:=r) S;generalize cameF ps h x r=B at b M g ⊢;have Z:∀p∈ps,Nd.r p.1∈B.1->Nd.c p.2∈B.1:=λp D n=>M _ n (.c p.2,p) (Ql.mpr ⟨p,Qm.mpr ⟨D,Y4 rfl⟩,rfl⟩) rfl;have X:∀p∈ps,0<x p->Nd.c p.2∈B.1->Nd.r p.1∈B.1:=λp D hx n=>M _ n (.r p.1,p) (Ql.mpr ⟨p,Qm.mpr ⟨D,Y4 rfl⟩,rfl⟩)<|decide_eq_true hx;refine⟨λp D n=>Y4<|Z p D (Y6 n),?_⟩;have A:((Qc h).filter λi=>decide<|Nd.r i∈B.1).Nodup:=Km.filter _;have O:((Qc w).filter λj=>decide<|Nd.c j∈B.1).Nodup:=Km.filter _;have T:(((Qc h).filter λi=>decide<|Nd.r i∈B.1).map R).sum=sumOn (λp=>decide<|p.1∈(Qc h).filter λi=>decide<|Nd.r i∈B.1) ps x+((Qc h).map r).sum:=by
  rw[<-du (f:=(·.1)) A,<-nU (p:=λi=>decide<|Nd.r i∈B.1) (f:=r) (l:=Qc h),iz]
  ·exact Ub Wo<|Qj λi t=>(F.row i<|Qi.mp (Qm.mp t).1).symm
  ·intro i t D;have N:=F.r0 i (Qi.mp t)
   rcases Int.lt_or_eq_of_le N with q|q
   ·exact absurd (b.has _<|Ql.mpr ⟨i,Qm.mpr ⟨t,Y4 q⟩,rfl⟩)<|of_decide_eq_false D
   ·exact q.symm
 have m:(((Qc w).filter λj=>decide<|Nd.c j∈B.1).map C).sum=sumOn (λp=>decide<|p.2∈(Qc w).filter λj=>decide<|Nd.c j∈B.1) ps x:=by
  rw[<-du (f:=(·.2)) O];refine Ub Wo (Qj λj H=> ?_);have K:=Qi.mp (Qm.mp H).1;have N:=F.c0 j K;have Y:¬c j>0:=λq=>by
   have:j∈goalF w c B:=Qm.mpr ⟨H,Y4 q⟩;rw[g] at this;cases this
  have:=F.col j K;show C j=colS ps x j;exact zr11 N Y this
 have e:sumOn (λp=>decide<|p.1∈(Qc h).filter λi=>decide<|Nd.r i∈B.1) ps x=sumOn (λp=>decide<|p.2∈(Qc w).filter λj=>decide<|Nd.c j∈B.1) ps x:=by
  refine hX λp D=> ?_;obtain⟨o,U⟩:=S.mem p D
  rcases Int.lt_or_eq_of_le (F.x0 p D) with q|q
  ·refine .inl<|decide_eq_decide.mpr ?_;rw[Qm,Qm,Qi,Qi,Ua,Ua];exact⟨λz=>⟨U,Z p D z.2⟩,λz=>⟨o,X p D q z.2⟩⟩
  ·exact .inr q.symm
 rw[T,m,e];exact zr9 s
structure Turn(ps:List Pl)(h w:Nat)(R C:Nat->Int)(x:Pl->Int)(r c:Nat->Int)(B:Bs)(g:Nat):Prop where
 gw:g<w
 gB:∃j:Nat,B.1[j]? =Ja (Nd.c g)
 ih:(wayG B g).E= .r (wayG B g).E.no/\(wayG B g).E.no<h
 inR:∀p∈(wayG B g).R,p∈ps
 inL:∀p∈(wayG B g).L,p∈ps
 len:(wayG B g).L.length<=ps.length
 a1:1<=amt x r c (wayG B g) g
 ar:amt x r c (wayG B g) g<=r (wayG B g).E.no
 fill:Fill ps h w R C (incs (-amt x r c (wayG B g) g) (wayG B g).L (incs (amt x r c (wayG B g) g) (wayG B g).R x)) (upd r (wayG B g).E.no (r (wayG B g).E.no-amt x r c (wayG B g) g)) (upd c g<|c g-amt x r c (wayG B g) g)
 less:((Qc h).map (upd r (wayG B g).E.no (r (wayG B g).E.no-amt x r c (wayG B g) g))).sum=((Qc h).map r).sum-amt x r c (wayG B g) g
theorem qA(S:Sz ps h w)(F:Fill ps h w R C x r c)(P:goalF w c (cameF ps h x r)=g::gs):Turn ps h w R C x r c (cameF ps h x r) g:=by
 obtain⟨b,o0⟩:=mL (x:=x) (r:=r) S;generalize cameF ps h x r=B at b P ⊢;have I:=S.h8;have E:=S.w8;have m:g∈goalF w c B:=P▸ .head _;obtain⟨G,X⟩:=Qm.mp m;obtain⟨g3,L⟩:=Qm.mp G;have v:=Qi.mp g3;have O:0<c g:=Y6 X;have d:Nd.c g∈B.1:=Y6 L;obtain⟨j,H⟩:=Yt d;have Q:=b.len;have K:=(QC.mp H).1;have W:=pK b 17 j (.c g) H (by exact zll K<|zle Q (zb2 (Kh I E) rfl));generalize o:wayF B 17 (.c g)=V at W;obtain⟨i,t,l,ri⟩:=tZ W.e;have n:V.E.no=i:=by rw[t];rfl
 have Z:r V.E.no::c g::V.L.map x≠ []:=λq=>nomatch q
 have A:=iE Z;have U:1<=amt x r c V g:=by
  rcases Qt.mp A.1 with q|q
  ·unfold amt;rw[q,n];exact ri
  ·rcases Qt.mp q with q|q
   ·unfold amt;rw[q];exact O
   ·obtain⟨p,D,e⟩:=Ql.mp q;unfold amt;rw[<-e];exact(W.l p D).2
 have J:amt x r c V g<=r V.E.no:=A.2 _<|.head _;have u:amt x r c V g<=c g:=A.2 _<|.tail _ (.head _);have y:∀p∈V.L,amt x r c V g<=x p:=λp D=>A.2 _<|.tail _ (.tail _<|Ql.mpr ⟨p,D,rfl⟩);generalize T:amt x r c V g=a at U J u y;have s:∀f:Pl->Bool,sumOn f ps (incs (-a) V.L<|incs a V.R x)=sumOn f ps x+a*((V.R.countP f:Nat)-(V.L.countP f:Nat):Int):=λf=>by
  rw[fD S.nd λp D=>(W.l p D).1,fD S.nd W.r,Int.mul_sub,Int.neg_mul];exact KR _ _ _
 have less:((Qc h).map (upd r V.E.no<|r V.E.no-a)).sum=((Qc h).map r).sum-a:=by
  rw[Ks,k9 Km,Y8 (Qi.mpr<|by rw[n];exact l)];exact rfl
 refine⟨v,⟨j,H⟩,?_,?_,?_,?_,?_,?_,?_,?_⟩<;>(try rw[wayG])<;>rw[o]
 ·exact⟨by rw[n];exact t,by rw[n];exact l⟩
 ·exact W.r
 ·exact λp D=>(W.l p D).1
 ·exact tF W.nd λp D=>(W.l p D).1
 ·rw[T];exact U
 ·rw[T];exact J
 ·rw[T];refine⟨λp D=> ?_,λk M=> ?_,λk M=> ?_,λk M=> ?_,λk M=> ?_,?_⟩
  ·have N:=mP (δ:=a) (by exact QP (by decide) U) (R:=V.R) (x:=x) p;have Y:=F.x0 p D;by_cases q:p∈V.L
   ·rw[o7 W.nd q];have:=y p q;exact WL<|QP this N
   ·rw[eT q];exact QP Y N
  ·by_cases q:k=V.E.no
   ·subst q;rw[bU];exact WL J
   ·rw[cm _ _ q];exact F.r0 k M
  ·by_cases q:k=g
   ·subst q;rw[bU];exact WL u
   ·rw[cm _ _ q];exact F.c0 k M
  ·have N:=W.row k;dsimp only[cR] at N;rw[dJ (p:=Nd.c g= .r k) (λq=>nomatch q)] at N;have Y:=F.row k M;unfold rowS at Y ⊢;rw[s];by_cases q:k=V.E.no
   ·subst q;rw[bU];rw[fz (by rw[n];exact t)] at N;rw[show((V.R.countP λp=>decide (p.1=V.E.no):Nat)-(V.L.countP λp=>decide (p.1=V.E.no):Nat):Int)=1 by exact N,Int.mul_one];exact zr1 Y
   ·rw[cm _ _ q];rw[dJ (λz=>q<|by rw[n];rw[t] at z;exact(Nd.r.inj z).symm)] at N;rw[show((V.R.countP λp=>decide (p.1=k):Nat)-(V.L.countP λp=>decide (p.1=k):Nat):Int)=0 by exact N,Int.mul_zero];exact zr2 Y
  ·have N:=W.col k;dsimp only[cC] at N;rw[dJ (p:=V.E= .c k) (λq=>by rw[t] at q;cases q)] at N;have Y:=F.col k M;unfold colS at Y ⊢;rw[s];by_cases q:k=g
   ·subst q;rw[bU];rw[fz rfl] at N;rw[show((V.R.countP λp=>decide (p.2=k):Nat)-(V.L.countP λp=>decide (p.2=k):Nat):Int)=1 by exact N,Int.mul_one];exact zr1 Y
   ·rw[cm _ _ q];rw[dJ (λz=>q (Nd.c.inj z).symm)] at N;rw[show((V.R.countP λp=>decide (p.2=k):Nat)-(V.L.countP λp=>decide (p.2=k):Nat):Int)=0 by exact N,Int.mul_zero];exact zr2 Y
  ·rw[less,show c g-a=c g+ -a from Ks,k9 Km,Y8<|Qi.mpr v,F.eq];exact rfl
 ·rw[T];exact less
theorem mH(S:Sz ps h w):∀ (f:Nat) (x:Pl->Int) (r c:Nat->Int),Fill ps h w R C x r c->((Qc h).map r).sum.toNat<f->Good ps h w R C (outF ps h w f x r c)
 |0=>λx r c o0 j=>absurd j<|Wf _
 |f+1=>λx r c F j=>by
  show Good ps h w R C (if((Qc h).map r).sum>0 then outG _ _ _ else .tab x);by_cases s:((Qc h).map r).sum>0
  ·rw[Y8 s]
   induction e:goalF w c (cameF ps h x r) using List.casesOn with
   |nil=>exact AF S F s e
   |cons g y=>
    have T:=qA S F e;refine mH S f _ _ _ T.fill ?_;exact zll (ztn s T.a1 T.less)<|zs j
  ·rw[Y7 s];have z:=rh (f:=r) (l:=Qc h) (λi t=>F.r0 i<|Qi.mp t) (by exact KG.mp s);have P:=rh (f:=c) (l:=Qc w) (λi t=>F.c0 i<|Qi.mp t) (by rw[<-F.eq];exact KG.mp s);refine⟨F.x0,λi t=> ?_,λi t=> ?_⟩
   ·have:=F.row i t;rw[z i (Qi.mpr t)] at this;exact(Ka _).symm.trans this
   ·have:=F.col i t;rw[P i (Qi.mpr t)] at this;exact(Ka _).symm.trans this
end
theorem tO{G:Gx}{c:DCl}{L:DRho}{K:DRho->Prop}(a:List E)(x:String)(b:List E):dio G c f L K (Ja (a,x,b))=(G.fn f=Jc/\dwes G c a L (λv=>offs x v=Jc/\dOE (λp=>p.2=Jc/\dwes G c b L (λq=>offs x q=Jc/\
   c.io f v.length (lent v++(p.1,Jc)::lent q) λd=>K (L.put x (d,Jc))) λo0 o0=>False) (L.get x)) λo0 o0=>False):=rfl
theorem zI(d:D)(l:List D):D.eqv (.list (d::l)) (.list [])=Jd:=rfl
theorem pV(d:D)(l:List D):dsub (.list (d::l)) (.int 0)=Ja d:=iT (l:=d::l) (j:=0) rfl
theorem ints2{L:Type}(g:L->Int)(a b:Int)(l:List L):dInts (.int a:: .int b::l.map λp=> .int (g p))=Ja (a::b::l.map g):=by
 show((dInts<|l.map λp=> .int (g p)).map (b:: ·)).map (a:: ·)=_;rw[fx];rfl
theorem nO{L:DRho}{d:D}{K:DRho->Prop}:dput L x [] d K=dOE (λo0=>K (L.put x (d,Jc))) (L.get x):=rfl
theorem lB{r:Nat->Int}(hi:i<h)(v:Int):D.list ((((Qc h).map r).map D.int).set i (.int v))=dI ((Qc h).map (upd r i v)):=by
 rw[<-Yz]
 congr 2
 refine WF λk=> ?_;rw[KS,Qd,QB,Y8 hi,Qu,Qu];by_cases q:i=k
 ·subst q;rw[Y8 rfl,Wu hi];show Ja v=Ja (upd r i v i);rw[bU]
 ·rw[Y7 q]
  induction M:(Qc h)[k]? with
  |none=>rfl
  |some m=>
   have L:m=k:=by
    obtain⟨N,p⟩:=QC.mp M;rw[Wc] at p;exact p.symm
   show Ja (r m)=Ja (upd r i v m);rw[cm _ _ (by rw[L];exact λz=>q z.symm)]
theorem iC{r:Nat->Int}(hi:i<h):dsub (dI ((Qc h).map r)) (.int i)=Ja (.int (r i)):=by
 rw[ky (by rw[Qd,QB];exact hi),gv _ hi]
theorem Az(c:List (List (Option Int)))(h w:Nat):(psF c h w).Nodup:=by
 refine List.Pairwise.filter _ ?_;show(allF h w).Nodup
 induction h with
 |zero=>exact .nil
 |succ h i=>
  refine Qo.mpr ⟨i,?_,λa T b R q=> ?_⟩
  ·rw[QQ,Wq];exact(QQ.mp Km).imp λh q=>h (Prod.mk.inj q).2
  ·subst q;obtain⟨j,o0,rfl⟩:=Ql.mp R;exact absurd (allF_mem.mp T).1 (KH _)
theorem nu(y:h<=8)(T:w<=8):(psF c h w).length<=64:=by
 refine Qv (Wm _ _) ?_;rw[jb];exact Yc y T
theorem iL(R:Rect c h w):Sz (psF c h w) h w:=⟨Az c h w,λp D=>⟨(m9 D).1,(m9 D).2.1⟩,R.h8,R.w8⟩
def outV(c:List (List (Option Int)))(r s:List Int)(h w:Nat):Out:=outF (psF c h w) h w (((Qc h).map (r1F c r)).sum.toNat+1) (λo0=>0) (r1F c r) (r2F c s)
theorem ua(f:Pl->Bool)(ps:List Pl):sumOn f ps (λo0=>0)=0:=ic _
theorem fill0(V:VOK c r s h w):Fill (psF c h w) h w (r1F c r) (r2F c s) (λo0=>0) (r1F c r) (r2F c s):=
 ⟨λp o0=>QZ _,V.n1,V.n2,λi o0=>by rw[rowS,ua,Wi],λi o0=>by rw[colS,ua,Wi],V.eq⟩
theorem kr{y:Nd}(W:y∈allN h w):(y.isR=Jc->y.no<h)/\(y.isR=Jd->y.no<w):=by
 rcases Qn.mp W with q|q
 ·obtain⟨i,t,rfl⟩:=Ql.mp q;exact⟨λo0=>Qi.mp t,λz=>(tf z)⟩
 ·obtain⟨i,t,rfl⟩:=Ql.mp q;exact⟨λz=>(ft z),λo0=>Qi.mp t⟩
theorem zk{x:Pl->Int}{r c:Nat->Int}(s:((Qc h).map r).sum>0)(g:goalF w c (cameF ps h x r)=[]):
  outF ps h w (f+1) x r c= .no (λi=>decide<|Nd.r i∈(cameF ps h x r).1) (λj=>decide<|Nd.c j∈(cameF ps h x r).1):=by
 refine(Y8 s).trans ?_;rw[g];rfl
theorem yP{x:Pl->Int}{r c:Nat->Int}(s:((Qc h).map r).sum>0)(S:goalF w c (cameF ps h x r)=g::gs):
  outF ps h w (f+1) x r c=outF ps h w f (incs (-amt x r c (wayG (cameF ps h x r) g) g) (wayG (cameF ps h x r) g).L (incs (amt x r c (wayG (cameF ps h x r) g) g) (wayG (cameF ps h x r) g).R x))
    (upd r (wayG (cameF ps h x r) g).E.no (r (wayG (cameF ps h x r) g).E.no-amt x r c (wayG (cameF ps h x r) g) g)) (upd c g<|c g-amt x r c (wayG (cameF ps h x r) g) g):=by
 refine(Y8 s).trans ?_;rw[S];rfl
theorem xe{x:Pl->Int}{r c:Nat->Int}(s:¬ ((Qc h).map r).sum>0):outF ps h w (f+1) x r c= .tab x:=by
 exact Y7 s
inductive CtI(ps:List Pl)(h w:Nat)(Rr Cc:Nat->Int)(O:Out)(vw pl nr:D)(k:Nat)(Δ:DRho):Prop
 |mk (x:Pl->Int) (ρ γ:Nat->Int) (f:Nat) (cv cn:Bool) (u1 u2 u3 u4 u5 u6 u7:Option (D×Bool)) (F:Fill ps h w Rr Cc x ρ γ) (hk:((Qc h).map ρ).sum.toNat=k) (hf:k<f) (hO:outF ps h w f x ρ γ=O)
  (e:Δ=(Nb "view" cv vw<|Nb "places" Jd pl<|Nb "near" cn nr<|Nb "counts" Jc (dCt ps x)<|No "place" u7<|Nb "rows" Jc (dI<|(Qc h).map ρ)<|Nb "columns" Jc (dI<|(Qc w).map γ)<|No "came" u1<|No "goals" u2<|No "raised" u3<|No "lowered" u4<|No "start" u5<|No "amount" u6<|[])):CtI ps h w Rr Cc O vw pl nr k Δ
section
variable{C:Cx}{mg mb:Jq->Option Jf}{n:Nat}{Q:D->Bool->Prop}{X:DX}
theorem pj(e:Env1 C G1 mg mb)(V:VOK c r s h w)(Y:∀x,outV c r s h w= .tab x->Q (dCt (psF c h w) x) Jc)
  (W:∀pa pb,outV c r s h w= .no pa pb->X "NoTable" [.hole,.hole]):aQ (aO C<|n+3) "counts_of" [(.tup [dC c,dI r,dI s],b)] Q X:=by
 refine e.fn fR (bu 21 rfl) rfl λcl cu PQ PX G=> ?_;dsimp only[fR];dsimp only[aZ,ch,bt];have S:=iL V.R;have o:=fill0 V;have l:(psF c h w).length<=64:=nu V.R.h8 V.R.w8;unfold outV at Y W;refine bk ?_
 (dsimp only[aP,flags,aC,aG,aU,aE,aI,aT,aR,aN,aD,aF,Qa,aJ,aB,aA,aK,b6,tgl,bC,bL,bD,bK,fC,cV,bj,aS,bB,cb,bI];refine⟨rfl,?_⟩)
 refine G.hc<|iY e V.R ?_;dsimp only[aA,bj,bA,aH,aL,Qa,aM,aB];generalize psF c h w=I at S o l Y W ⊢;generalize hR:r1F c r=d at o Y W ⊢;generalize hC:r2F c s=Cc at o Y W ⊢;generalize P:outF I h w (((Qc h).map d).sum.toNat+1) (λo0=>0) d Cc=O at Y W;have U:h+w<=16:=Kh S.h8 S.w8;refine bk ?_
 (dsimp only[aP,flags,aC,aG,aU,aE,aI,aT,aD,aF,Qa,aJ,aB,aA,aK,bj,aS,bB,cb,bI];refine⟨rfl,?_⟩)
 refine G.hc (pA e l λns N=> ?_);dsimp only[aA,dA,bA,aH,aL,Qa,aM,aB];refine bk ?_
 (dsimp only[ir,bA,aH,aL,Qa,aM,aB,aA];refine⟨rfl,?_⟩)
 refine dG rfl ?_;dsimp only[fsts,aC,aG,aU,aE,aI,aT,ck,aD,aF,Qa,aJ,aB,aA,aK,bj,bB,fM,fH,fG,fF,gO,bC,bL,bD,bK,fK,d4,gn,cP,fN,fJ,cw];refine cK dP (λi Δ=>∃u,Δ=(Nb "view" b (.tup [dC c,dI r,dI s])<|Nb "places" Jd (.list<|I.map dP)<|Nb "near" Jc (md Nd.key (nearG I) ns)<|Nb "counts" Jc (dCt (I.take i)<|λo0=>0)<|No "place" u<|No "rows" Jb<|No "columns" Jb<|No "came" Jb<|No "goals" Jb<|No "raised" Jb<|No "lowered" Jb<|No "start" Jb<|No "amount" Jb<|[])) _ _ ⟨_,rfl⟩ ?_ ?_
 ·rintro j p Δ v ⟨u,rfl⟩ K kn;have ac:=l5 S.nd v;dsimp only[b5,aL,Qa,aM,aB,aA,bJ];refine jz b8 (a:=p) (g:=λo0=> .int 0) (xs:=I.take j) (dk:=dP p) (dv:= .int 0) rfl (S.nd.sublist<|Yj _ _) (cS<|by rw[Yq];exact zl (Yr _ _)<|zb1 l rfl) (cY p) (λQ q=> ?_) (λQ X q=> ?_) ?_
  ·exact⟨rfl,q⟩
  ·dsimp only[aD,aF,Qa,aJ,aB,aA,aK];exact q
  ·dsimp only[aL,Qa,aM,aB,aA];refine kn _ ⟨Ja (dP p,Jc),?_⟩;rw[eK v,kW ac,show upd (λo0=>D.int 0) p (.int 0)=λo0=>D.int 0 from by funext z;unfold upd;split<;>rfl];rfl
 rintro Δ ⟨u0,rfl⟩;rw[Ke];refine f7 ?_;refine dt rfl ?_
 (dsimp only[aP,flags,aC,aG,aU,aE,aI,aT,aD,aF,Qa,aJ,aB,aA,aK,b6,tgl,bC,bL,bD,bK,aS,bB,cb,bI];refine⟨rfl,?_⟩)
 refine G.hc<|qo e V.R V.hr V.hs ?_;dsimp only[aA,b6,tgl,bC,bL,bD,bK,aB,aH,bA,f6,aL,Qa,aM,bJ];rw[hR,hC];refine iu rfl (((Qc h).map d).sum.toNat+1) ?_;refine fA (CtI I h w d Cc O (.tup [dC c,dI r,dI s]) (.list<|I.map dP)<|md Nd.key (nearG I) ns)
  ?_ _ ((Qc h).map d).sum.toNat _ (QI _) ⟨λo0=>0,d,Cc,_,_,_,_,_,_,_,_,_,_,o,rfl,QI _,P,rfl⟩
 rintro k Δ ⟨x,L,t,f,cv,cn,u1,u2,u3,u4,u5,u6,u7,F,hk,hf,P,rfl⟩ K kn;clear o;obtain⟨f,rfl⟩:∃f',f=f'+1:=⟨f-1,by exact zpr hf⟩
 (dsimp only[aX,bw,aN,bl,gz,jU,aC,aE,ca,aD,aF,Qa,aJ,aB,aA,aK,dW];refine⟨rfl,?_⟩)
 refine g7 (fB _) ?_;refine cE (λA=> ?_) λA=> ?_
 rotate_left
 ·rw[xe A] at P;refine f7 ?_;refine cL ?_;dsimp only[b9,aL,Qa,aM,aB,aA,aF,aJ,aK,d4];exact G.qr<|Y x P.symm
 have J:Bfs I x (stF h L) h w (bfsF I x<|stF h L):=(mL (x:=x) (r:=L) S).1;have Z:=J.len;refine bk ?_
 (dsimp only[aP,flags,aC,aG,aU,aE,aI,aT,dU,aH,br,aD,aF,Qa,aJ,aB,aA,aK,dA,aS];refine⟨rfl,?_⟩)
 refine cF rfl ?_
 (dsimp only[fsts,aC,aG,aU,aE,aI,aT,bl,ce,br,iZ,iP,ca,aD,aF,Qa,aJ,aB,aA,aK,cI,cN];refine⟨rfl,?_⟩)
 rw[Qd,Qd,QB];refine⟨rg S.h8,ib (λk=>dN<|.r k) (λi=>decide<|L i>0) (λi hi=> ?_) ?_⟩
 ·dsimp only[bp,cA,b5,aM,Qa,aL,aB,aA,bJ];refine⟨λT hT=> ?_,λo0 K k=> ?_⟩
  ·dsimp only[tstD];dsimp only[aX,bw,aN,aR,aD,aJ,Qa,aF,aB,aA,aK];refine aY (iC hi) ?_;dsimp only[jU];exact hT
  ·dsimp only[elD];dsimp only[bS,fsts,dtup,aC,aG,aV,aU,aE,aI,aW,aT,aD,aJ,Qa,aF,aB,aA,aK,bv,br,cf];refine gV ?_
   (dsimp only[br];refine⟨by decide,?_⟩)
   exact k
 rw[show(((Qc h).filter λi=>decide<|L i>0).map λk=>dN<|.r k)=(stF h L).map dN from by rw[stF,QE];rfl];dsimp only[aH,br,bB,cb,dl,bI];refine G.hc<|jO (ban:=Jb) e N S.mem S.h8 S.w8 (xS h L) sz ?_;rw[wo];dsimp only[aA,dA,bA,aH,aL,Qa,aM,aB];generalize hB:bfsF I x (stF h L)=B at J Z ⊢;refine bk ?_;refine cF rfl ?_
 (dsimp only[fsts,aC,aG,aU,aE,aI,aT,ck,aP,flags,cf,aD,aF,Qa,aJ,aB,aA,aK,dA,aS];refine⟨rfl,?_⟩)
 refine f9 ?_;dsimp only[aH,br,bB,cb,bI];refine G.hc<|kl (b:=Jd) (m:=w) e J.nd (by exact zle Z U) (λy hy hr=>(kr<|J.val y hy).2 hr) ?_;dsimp only[cw,aA,bj,br];refine cg (λ(k:Nat)=> .int (k:Int)) (λ(k:Nat)=> .int (k:Int)) (λj=>decide<|t j>0) (λj v=> ?_) ?_
 ·have v:=Qi.mp (Qm.mp v).1;dsimp only[bp,cA,b5,aM,Qa,aL,aB,aA,bJ];refine⟨λT hT=> ?_,λo0 K k=> ?_⟩
  ·dsimp only[tstD];dsimp only[aX,bw,aN,aR,aD,aJ,Qa,aF,aB,aA,aK];refine aY (iC v) ?_;dsimp only[jU];exact hT
  ·dsimp only[elD];dsimp only[aD,aJ,Qa,aF,aB,aA,aK,bv];exact k
 dsimp only[bA,aH,aL,Qa,aM,aB,aA];have M:((numF Jd w B.1).filter λj=>decide<|t j>0)=goalF w t (cameF I h x L):=by rw[show cameF I h x L=B from hB];rfl
 rw[M]
 induction hg:goalF w t (cameF I h x L) using List.casesOn with
 |nil=>
  rw[zk A hg,show cameF I h x L=B from hB] at P;refine cp ?_
  (dsimp only[aI,aX,bw,ej,deq,bH,fsts,dnew,aE,aW,aD,aF,Qa,aJ,aB,aA,aK];refine⟨by decide,⟨rfl,rfl⟩,?_⟩)
  refine ny ⟨rfl,rfl,.inr ⟨rfl,rfl⟩⟩ ?_
  (dsimp only[fsts,aC,aG,aE,aI,aP,flags,cf,aD,aF,Qa,aJ,aB,aA,aK,dA,aS];refine⟨rfl,?_⟩)
  refine gV ?_;dsimp only[aH];refine G.hc<|kl (b:=Jc) (m:=h) e J.nd (by exact zle Z U) (λy hy hr=>(kr<|J.val y hy).1 hr) ?_;refine⟨rfl,?_⟩;refine f9 ?_;dsimp only[aH];refine G.hc<|kl (b:=Jd) (m:=w) e J.nd (by exact zle Z U) (λy hy hr=>(kr<|J.val y hy).2 hr) ?_;exact G.qx<|W _ _ P.symm
 |cons g gs=>
  have T:=qA S F hg;rw[yP A hg] at P;rw[show cameF I h x L=B from hB] at T P;have ae:=U;obtain⟨jg,ad⟩:=T.gB;refine cp ?_
  (dsimp only[aG,aX,bw,ej,deq,bH,fsts,dnew,aE,aI,aW,aD,aF,Qa,aJ,aB,aA,aK];refine⟨by decide,?_⟩)
  refine⟨⟨by rw[c9];exact b7 _ (λa=>eO _ _) _,rfl⟩,?_⟩;rw[zI];dsimp only[aB];refine dt rfl ?_
  (dsimp only[aP,flags,aC,aG,aU,aE,aI,aT,bS,fsts,dtup,aV,aW,aR,aN,aD,aF,Qa,aJ,aB,aA,aK,bj,cf,dA,aS];refine⟨rfl,?_⟩)
  refine f9 ?_;dsimp only[br];refine aY (pV _ _) ?_
  (dsimp only[bv,br,aH,bB,cb,bI];refine⟨by decide,?_⟩)
  refine G.hc<|sI (y:= .c g) e J U ad ?_;dsimp only[aA,b6,tgl,bC,bL,bD,bK,aB,aH,bA,vV,aL,Qa,aM,bJ];refine bk ?_
  (dsimp only[bl,nC,aC,aE,xc,bA,aH,aL,Qa,aM,aA,aB,bq,bH,fsts,dnew,aG,aV,aU,aI,aW,aT,aR,aN,aD,aF,aJ,aK,bj];refine⟨rfl,?_⟩)
  refine aY (ru _) ?_;refine aY (iC T.ih.2) ?_;dsimp only[bv,br];refine aY (pV _ _) ?_;refine aY (iC T.gw) ?_
  (dsimp only[bv,br];refine⟨by decide,?_⟩)
  refine bV rfl ?_;dsimp only[fsts,ik,dl,bI,br,tgl,bC,cM,cJ,dnew,aV,dW,aC,aG,aU,aE,aI,aT,ck,aD,aF,Qa,aJ,aB,aA,aK,bj,bB,cw];refine bE dP (λp=> .int (x p)) (λp hp K k=> ?_) ?_
  ·dsimp only[bp,cA,b5,aM,Qa,aL,aB,aA,bJ];dsimp only[elD];dsimp only[aR,aD,aJ,Qa,aF,aB,aA,aK,dA];refine aY (c7 b8 (cY p)<|T.inL p hp) ?_;dsimp only[bv];exact k
  refine⟨by rw[Qd];exact dM (by have:(wayF B 17<|.c g).L.length<=I.length:=T.len;exact zb2 (Kk (zle this l) 2) rfl),?_⟩;refine g7 (ints2 _ _ _ _) ?_;refine⟨λq=>(nomatch q),?_⟩;rw[show lmin (L (wayG B g).E.no::t g::(wayF B 17<|.c g).L.map x)=amt x L t (wayG B g) g from rfl];have ab:=T.ar;have H:=T.a1;have E:=T.less;have aa:=T.fill;have R:=T.ih.2;generalize amt x L t (wayG B g) g=a at P ab H E aa ⊢;refine k6 ?_;rw[show spl _ _=Ja ([],"counts",[.loc "raised",.loc "lowered",.loc "amount"]) from rfl,tO]
  (dsimp only[aL,Qa,aM,aB,aA,aC,aG,aE,aI,aD,aF,aJ,aK,bv,bj,aW,bI];refine⟨rfl,rfl,rfl,rfl,?_⟩)
  refine G.io<|pJ e S.nd l T.inR T.inL ?_;refine oq ?_;dsimp only[aR,aN,aD,oF,aF,Qa,aJ,aB,aA,aK,bq,bv,bj];rw[ru];dsimp only[cV];refine aY (iC R) ?_
  (dsimp only[gX];refine⟨rfl,?_⟩)
  rw[i3]
  (dsimp only[aF,Qa,aJ,aB,aA,aK];refine⟨rfl,?_⟩)
  rw[vM,sS,Qd,Qd,QB,eI (show(wayF B 17<|.c g).E.no<h from R),cN,lB (show(wayF B 17<|.c g).E.no<h from R),nO];dsimp only[aL,Qa,aM,aB,aA,aF,aJ,aK];refine oq ?_;dsimp only[aR,aN,aD,oF,aF,Qa,aJ,aB,aA,aK,bq,bv,bj];rw[pV];dsimp only[cV];refine aY (iC T.gw) ?_
  (dsimp only[gX];refine⟨rfl,?_⟩)
  rw[i3]
  (dsimp only[aF,Qa,aJ,aB,aA,aK];refine⟨rfl,?_⟩)
  rw[vM,sS,Qd,Qd,QB,eI T.gw,cN,lB T.gw,nO];dsimp only[aL,Qa,aM,aB,aA,aF,aJ,aK];refine kn _ _ ?_ ⟨_,_,_,f,cv,cn,_,_,_,_,_,_,_,aa,rfl,?_,P,rfl⟩
  ·exact zq (ztn A H E) hk
  ·exact zll (ztn A H E)<|zle (QT hk) (zs hf)
end
def setG{L:Type}(t:List (List L))(i j:Nat)(v:L):List (List L):=t.set i<|(rowAt t i).set j v
theorem Rect.setG{L:Type}{t:List (List L)}(R:Rect t h w)(hi:i<h){v:L}:Rect (setG t i j v) h w:=by
 refine⟨by rw[Vl.Internal.setG,WC];exact R.len,λr T=> ?_,R.h1,R.h8,R.w1,R.w8⟩
 rcases List.mem_or_eq_of_mem_set T with q|rfl
 ·exact R.row r q
 ·rw[WC];exact(R.at_ hi).2
theorem sL(R:Rect t h w)(hi:i<h)(E:j<w)(a b:Nat):cO (setG t i j v) a b=if(a,b)=(i,j) then v else cO t a b:=by
 have l:i<t.length:=by rw[R.len];exact hi
 have r:=(R.at_ hi).2;unfold cO rowAt setG;rw[KS];by_cases T:i=a
 ·subst T;rw[Y8 rfl,Y8 l];show((rowAt t i).set j v)[b]?.getD Jb=_;rw[KS];by_cases H:j=b
  ·subst H;rw[Y8 rfl,Y8<|by exact zq E r.symm,Y8 rfl];rfl
  ·rw[Y7 H,Y7 λq=>H (Prod.mk.inj q).2.symm];rfl
 ·rw[Y7 T,Y7 λq=>T (Prod.mk.inj q).1.symm]
section
variable{G:Gx}{cl cu:DCl}{Δ:DRho}
theorem td(R:Rect t h w)(hx:Δ.get x=Ja (dC t,Jc))(hi:i<h)(N:j<w)
  (O:∀Q:D->DRho->Prop,Q (dO v) Δ->dwm G cl Δ e Δ Q)(T:∀ (Q:DQ) X,Q (.int i) Jb->dwe G cl s Δ Q X)(Z:∀ (Q:DQ) X,Q (.int j) Jb->dwe G cl c Δ Q X)
  (k:dwss G cl cu r (Δ.put x (dC<|setG t i j v,Jc)) Q X):dwss G cl cu (.setIdx (.sub (.loc x) s) c e::r) Δ Q X:=by
 refine oq<|O _ ?_;rw[mD,i3,hx,aK];refine⟨rfl,T _ _ ⟨rfl,?_⟩⟩;rw[hW R hi,cV];refine Z _ _ ?_;rw[vM,sS,Qd,(R.at_ hi).2,eI N,cN];show dOE _ (Δ.get x);rw[hx,aK];show dOD _ (updp [.int i] (λo0=>Ja<|.list (((rowAt t i).map dO).set j (dO v))) (dC t));have u:updp [.int i] (λo0=>Ja<|.list (((rowAt t i).map dO).set j (dO v))) (dC t)=Ja (dC<|setG t i j v):=by
  show(place (t.map dR).length (i:Int)).bind (λH=>((t.map dR)[H]?).bind λx=>Wn (λy=>D.list<|(t.map dR).set H y)<|Ja (.list<|((rowAt t i).map dO).set j (dO v)))=_;rw[Qd,R.len,eI hi];show((t.map dR)[i]?).bind (λx=>Ja<|D.list ((t.map dR).set i (.list<|((rowAt t i).map dO).set j (dO v))))=_;rw[Qu,(R.at_ hi).1];show Ja (D.list<|(t.map dR).set i (.list<|((rowAt t i).map dO).set j (dO v)))=_;rw[<-Yz (f:=dO),show D.list (Kt dO<|(rowAt t i).set j v)=dR ((rowAt t i).set j v) from rfl,<-Yz];rfl
 rw[u,cV];exact k
end
def fcF(x:Pl->Int)(c:List (List (Option Int)))(ps:List Pl):List (List (Option Int)):=ps.foldl (λt p=>setG t p.1 p.2 (Ja (x p))) c
theorem tL{h w:Nat}{x:Pl->Int}:∀ {ps:List Pl} {c:List (List (Option Int))},Rect c h w->(∀p∈ps,p.1<h/\p.2<w)->Rect (fcF x c ps) h w/\∀a b,cO (fcF x c ps) a b=if(a,b)∈ps then Ja (x (a,b)) else cO c a b
 |[]=>λR o0=>⟨R,λa b=>rfl⟩
 |p::ps=>λR D=>by
  obtain⟨o,r⟩:=D p<|.head _;obtain⟨N,Y⟩:=tL (x:=x) (ps:=ps) (R.setG (j:=p.2) (v:=Ja<|x p) o) λq m=>D q<|.tail _ m;refine⟨N,λa b=>(Y a b).trans ?_⟩;rw[sL R o r];by_cases q:(a,b)∈ps
  ·rw[Y8 q,Y8 (.tail _ q)]
  ·rw[Y7 q];by_cases z:(a,b)=p
   ·rw[Y8 z,Y8<|z▸ .head _,z]
   ·rw[Y7 z,Y7 λy=>(Qt.mp y).elim z q]
def tabV(c:List (List (Option Int)))(x:Pl->Int)(h w:Nat):List (List Int):=(Qc h).map λa=>(Qc w).map λb=>(cO c a b).getD (x (a,b))
theorem qv(R:Rect t h w):t=(Qc h).map λa=>(Qc w).map λb=>cO t a b:=by
 refine(pI R).trans (Qj λa T=> ?_);have l:=(R.at_<|Qi.mp T).2;refine WM (by rw[l,Qd,QB]) λi N p=> ?_;rw[Wt,Wc,cO,Qg N];rfl
theorem yk(R:Rect c h w)(x:Pl->Int):dC (fcF x c (psF c h w))=dT (tabV c x h w):=by
 obtain⟨N,p⟩:=tL (x:=x) (ps:=psF c h w) R (iL R).mem;have L:fcF x c (psF c h w)=(Qc h).map λa=>(Qc w).map λb=>Ja ((cO c a b).getD (x (a,b))):=by
  refine(qv N).trans (Qj λa T=>Qj λb H=> ?_);rw[p];by_cases q:(a,b)∈psF c h w
  ·rw[Y8 q,(m9 q).2.2];rfl
  ·rw[Y7 q]
   induction e:cO c a b with
   |some v=>rfl
   |none=>
    refine absurd (Qm.mpr ⟨allF_mem.mpr ⟨Qi.mp T,Qi.mp H⟩,?_⟩) q;show(!(cO c a b).isSome)=Jc;rw[e];rfl
 rw[L,tabV,dC,dT,QE,QE]
 congr 1
 refine Qj λa o0=> ?_;show dR _=dI _;rw[dR,dI,QE,QE];rfl
theorem mK(ps:List Pl):(ps.map pkey).map keyDd=ps.map dP:=by rw[QE];rfl
theorem zr{M:D->DRho->Prop}(a:E)(l:List E):dwm G cl z (.sub a (.tup l)) Δ M=dwe G cl (.sub a (.tup l)) z (λd t=>t=Jb/\M d Δ) λo0 o0=>False:=rfl
section
variable{C:Cx}{mg mb:Jq->Option Jf}{n:Nat}{Q:D->Bool->Prop}{X:DX}
theorem jf(e:Env1 C G1 mg mb)(R:Rect c h w){x:Pl->Int}(T:Q (dT (tabV c x h w)) Jc):aQ (aO C (n+1)) "with_counts" [(.tup [dC c,dI r,dI s],b),(dCt (psF c h w) x,V)] Q X:=by
 refine e.fn eM (bu 22 rfl) rfl λcl cu P PX g=> ?_;dsimp only[eM];dsimp only[aZ,ch,bt];have S:=iL R;have l:(psF c h w).length<=64:=nu R.h8 R.w8;rw[<-yk R] at T;refine bk ?_;refine bV rfl ?_;dsimp only[fsts,aC,aG,aU,aE,aI,aT,ck,aR,aN,aD,aF,Qa,aJ,aB,aA,aK,b6,tgl,bC,bL,bD,bK,fC,cV,bj,bB,cw];refine bE dR dR (λZ f K k=> ?_) ?_
 ·dsimp only[bp,cA,b5,aM,Qa,aL,aB,aA,bJ];dsimp only[elD]
  (dsimp only[bl,ey,aC,aE,ca,aD,aJ,Qa,aF,aB,aA,aK,bj,pY,tgl];refine⟨rfl,?_⟩)
  rw[de _ vv];exact k
 dsimp only[bA,aH,aL,Qa,aM,aB,aA];generalize psF c h w=I at S l T ⊢;refine dG rfl ?_
 (dsimp only[fsts,aC,aG,aU,aE,aI,aT,ck,bl,ey,ca,aD,aF,Qa,aJ,aB,aA,aK,dA,Bz,br,bA,cw];refine⟨rfl,?_⟩)
 refine⟨⟨by rw[Qd];exact dM<|by exact zb2 l rfl,λq o=> ?_⟩,?_⟩
 ·obtain⟨y,o0,rfl⟩:=Ql.mp o;exact dM (show 2<=1000 by decide)
 rw[mK];refine cK dP (λi Δ=>∃u v,Δ=(Nb "view" b (.tup [dC c,dI r,dI s])<|Nb "counts" V (dCt I x)<|Nb "table" Jc (dC<|fcF x c (I.take i))<|No "row" u<|No "column" v<|[])) _ _ ⟨_,_,rfl⟩ ?_ ?_
 ·rintro j p Δ H ⟨u,v,rfl⟩ K m;have D:=Qz H;obtain⟨d,o0⟩:=tL (x:=x) (ps:=I.take j) R λq o=>S.mem q<|Yu o;rw[show fcF x c (I.take<|j+1)=setG (fcF x c<|I.take j) p.1 p.2 (Ja<|x p) from gp _ c H] at m;generalize fcF x c (I.take j)=t at d m ⊢;obtain⟨a,U⟩:=S.mem p D;dsimp only[dP];dsimp only[gO,bC,cM,bD,cJ,f6,aL,Qa,aM,aB,aA,bJ];refine td (i:=p.1) (j:=p.2) (v:=Ja<|x p) d rfl a U (λQ q=> ?_) (λQ X q=> ?_) (λQ X q=> ?_) ?_
  ·rw[zr]
   (dsimp only[aR,bS,fsts,dtup,aC,aG,aV,aE,aI,aW,aD,aF,Qa,aA,aB,aK,dA];refine⟨by decide,?_⟩)
   refine aY (c7 b8 (show keyD (.tup [.int (p.1:Int),.int (p.2:Int)])=Ja (pkey p) from rfl) D) ?_
   (dsimp only[bv];refine⟨rfl,?_⟩)
   exact q
  ·dsimp only[aD,aF,Qa,aB,aA,aK,bv];exact q
  ·dsimp only[aD,aF,Qa,aA,aB,aK,bv];exact q
  ·dsimp only[aL,Qa,aB,aA];exact m _ ⟨_,_,rfl⟩
 ·rintro Δ ⟨u,v,rfl⟩;rw[Ke];refine f7 ?_;refine cL ?_;dsimp only[b9,aL,Qa,aM,aB,aA,aF,aJ,aK,bL];exact g.qr T
theorem A2{G:Gx}{cl cu:DCl}{Δ:DRho}{Q:bR}{X:DSX}{b h r:List S}{c:String}(U:G.full=Jc/\G.calm=Jc/\G.cs.contains c=Jc)
  (w:dwss G cl cu b Δ (donFl (λi=>dwss G cl cu r i Q X) Q) λe es i=>if G.sub e c then dwss G.un cu cu h i (donFl (λi=>dwss G cl cu r i Q X) Q) λo0 o0 o0=>False else False):
  dwss G cl cu (.try1 b c h::r) Δ Q X:=⟨U,w⟩
end
theorem get_mem{l:List Int}(h:k<l.length):l[k]?.getD 0∈l:=by rw[Qg h];exact KX _
theorem kH(l:List Int):(Qc l.length).map (λk=>l[k]?.getD 0)=l:=by
 refine WM (by rw[Qd,QB]) λi N h=> ?_;rw[Wt,Wc,Qg h];rfl
section
variable{C:Cx}{mg mb:Jq->Option Jf}{n:Nat}{Q:D->Bool->Prop}{X:DX}
end
theorem rn(F:Pl->Int)(h w:Nat):((allF h w).map F).sum=((Qc h).map λa=>((Qc w).map λb=>F (a,b)).sum).sum:=by
 induction h with
 |zero=>rfl
 |succ h i=>
  rw[mx,QD,WW,i,List.range_succ,QD,WW,QE];show _+_=_+(((Qc w).map λb=>F (h,b)).sum+0)
  rw[Ka];rfl
theorem gH(f g:Pl->Bool)(x:Pl->Int):∀l:List Pl,sumOn f (l.filter g) x=(l.map λp=>if g p then(if f p then x p else 0) else 0).sum
 |[]=>rfl
 |p::l=>by
  rw[Qq,QY,<-gH f g x l];by_cases h:g p=Jc
  ·rw[Ko h,cZ,Y8 h]
  ·rw[Kq h,Y7 h,Wi]
theorem nL{v:Nat->Int}{l:List Nat}(nd:l.Nodup)(o:q∈l):(l.map λi=>if i=q then v i else 0).sum=v q:=by
 rw[show(l.map λi=>if i=q then v i else 0)=l.map λi=>if q=i then v q else 0 from Qj λi o0=> ?_,ni nd,Y8 o];by_cases e:i=q
 ·subst e;rw[Y8 rfl]
 ·rw[Y7 e,Y7 λz=>e z.symm]
def hx(c:List (List (Option Int)))(x:Pl->Int)(a b:Nat):Int:=if !(cO c a b).isSome then x (a,b) else 0
theorem vl(c:List (List (Option Int)))(x:Pl->Int)(a b:Nat):(cO c a b).getD (x (a,b))=(cO c a b).getD 0+hx c x a b:=by
 unfold hx;cases cO c a b with
 |none=>exact(Wi _).symm
 |some v=>exact(Ka _).symm
section
variable{c:List (List (Option Int))}{r s:List Int}{h w:Nat}{x:Pl->Int}
theorem qu(T:a<h):rowS (psF c h w) x a=((Qc w).map λb=>hx c x a b).sum:=by
 rw[rowS,psF,gH,rn];rw[show((Qc h).map λY=>((Qc w).map λb=>if !(cO c Y b).isSome then(if decide (Y=a) then x (Y,b) else 0) else 0).sum)=(Qc h).map λY=>if Y=a then((Qc w).map λb=>hx c x Y b).sum else 0 from Qj λY o0=> ?_]
 ·exact nL (v:=λY=>((Qc w).map λb=>hx c x Y b).sum) Km<|Qi.mpr T
 ·by_cases e:Y=a
  ·rw[Y8 e];refine Ub Wo (Qj λb o0=> ?_);rw[Y8 (Y4 e)];rfl
  ·rw[Y7 e];refine(Ub Wo<|Qj λb o0=> ?_).trans (ic<|Qc w);rw[show decide (Y=a)=Jd from Y5 e];split<;>rfl
theorem qT(R:b<w):colS (psF c h w) x b=((Qc h).map λa=>hx c x a b).sum:=by
 rw[colS,psF,gH,rn,pc (λa G=>if !(cO c a G).isSome then(if decide (G=b) then x (a,G) else 0) else 0)];rw[show((Qc w).map λG=>((Qc h).map λa=>if !(cO c a G).isSome then(if decide (G=b) then x (a,G) else 0) else 0).sum)=(Qc w).map λG=>if G=b then((Qc h).map λa=>hx c x a G).sum else 0 from Qj λG o0=> ?_]
 ·exact nL (v:=λG=>((Qc h).map λa=>hx c x a G).sum) Km<|Qi.mpr R
 ·by_cases e:G=b
  ·rw[Y8 e];refine Ub Wo (Qj λa o0=> ?_);rw[Y8 (Y4 e)];rfl
  ·rw[Y7 e];refine(Ub Wo<|Qj λa o0=> ?_).trans (ic<|Qc h);rw[show decide (G=b)=Jd from Y5 e];split<;>rfl
theorem A9(R:Rect c h w)(T:a<h):((rowAt c a).filterMap id).sum=((Qc w).map λb=>(cO c a b).getD 0).sum:=by
 have l:=(R.at_ T).2;rw[mG];refine Ub Wo (WM (by rw[Qd,Qd,l,QB]) λi N p=> ?_);rw[Qd] at N;rw[Wt,Wt,Wc,cO,Qg N];rfl
theorem Bf(R:Rect c h w):(c.filterMap λo=>o[b]?.getD Jb).sum=((Qc h).map λa=>(cO c a b).getD 0).sum:=by
 rw[mG]
 conv=>lhs;rw[pI R]
 rw[QE];rfl
theorem lA(R:Rect c h w):Rect (tabV c x h w) h w:=Rect.range _ R.h1 R.h8 R.w1 R.w8
theorem jG(T:a<h)(R:b<w):cell (tabV c x h w) a b=(cO c a b).getD (x (a,b)):=by
 rw[cell,tabV,hY _ T,gv _ R]
theorem wH(V:VOK c r s h w)(G:Good (psF c h w) h w (r1F c r) (r2F c s) (.tab x)):A3 (∀a b,a<h->b<w->okO (cO c a b) (cell (tabV c x h w) a b)=Jc) (rsF (tabV c x h w)=r) (csF (tabV c x h w) w=s):=by
 refine⟨λa b T R=> ?_,?_,?_⟩
 ·rw[jG T R];unfold okO;cases cO c a b with
  |none=>rfl
  |some v=>show(!(Jc&& !decide (v=v)))=Jc;rw[Y4 rfl];rfl
 ·rw[rsF,tabV,QE]
  conv=>rhs;rw[<-kH r,V.hr]
  refine Qj λa T=> ?_;have T:=Qi.mp T;show((Qc w).map λb=>(cO c a b).getD (x (a,b))).sum=_;rw[Qj λb o0=>vl c x a b,<-iz,<-qu T,G.2.1 a T,<-A9 V.R T,r1F];exact zr5 _ _
 ·rw[csF,tabV]
  conv=>rhs;rw[<-kH s,V.hs]
  refine Qj λb R=> ?_;have R:=Qi.mp R;rw[QE];rw[show((Qc h).map ((λr:List Int=>r[b]?.getD 0)∘λa=>(Qc w).map λb=>(cO c a b).getD (x (a,b))))=(Qc h).map λa=>(cO c a b).getD 0+hx c x a b from Qj λa o0=>(gv _ R 0).trans (vl c x a b)];rw[<-iz,<-qT R,G.2.2 b R,<-Bf V.R,r2F];exact zr5 _ _
theorem vD(V:VOK c r s h w)(q:∀p∈psF c h w,0<=x p):NN (tabV c x h w):=by
 refine(jy<|lA V.R).mpr λa b T R=> ?_;rw[jG T R]
 induction e:cO c a b with
 |none=>
  refine q (a,b)<|Qm.mpr ⟨allF_mem.mpr ⟨T,R⟩,?_⟩;show(!(cO c a b).isSome)=Jc;rw[e];rfl
 |some v=>
  have l:=(V.R.at_ T).2;refine V.nc _ (Qz (V.R.at_ T).1) v ?_;rw[cO,Qg (by rw[l];exact R)] at e;have e:(rowAt c a)[b]=Ja v:=e;rw[<-e];exact KX _
end
noncomputable def stG(hi:Bool)(p:Pl):Nd:=bif hi then .c p.2 else .r p.1
noncomputable def glG(hi:Bool)(p:Pl):Nd:=bif hi then .r p.1 else .c p.2
abbrev cmG(ps:List Pl)(hi:Bool)(p:Pl)(x:Pl->Int):Bs:=bfsF (bn (Ja p) ps) x [stG hi p]
noncomputable def upR(hi:Bool)(p:Pl)(W:Way):List Pl:=bif hi then W.R++[p] else W.R
noncomputable def dnL(hi:Bool)(p:Pl)(W:Way):List Pl:=bif hi then W.L else W.L++[p]
def amG(hi:Bool)(p:Pl)(x:Pl->Int)(W:Way):Int:=lmin<|(dnL hi p W).map x
def nxG(hi:Bool)(p:Pl)(x:Pl->Int)(W:Way):Pl->Int:=incs (-amG hi p x W) (dnL hi p W)<|incs (amG hi p x W) (upR hi p W) x
noncomputable def cycF(ps:List Pl)(hi:Bool)(p:Pl):Nat->(Pl->Int)->(Pl->Int)
 |0,x=>x
 |k+1,x=>if glG hi p∈(cmG ps hi p x).1/\(hi=Jd->x p≠0) then cycF ps hi p k (nxG hi p x<|wayF (cmG ps hi p x) 17 (glG hi p)) else x
noncomputable def msG(R:Nat->Int)(hi:Bool)(p:Pl)(x:Pl->Int):Nat:=bif hi then(R p.1-x p).toNat else(x p).toNat
theorem j2{x:Pl->Int}(h:¬ (glG hi p∈(cmG ps hi p x).1/\(hi=Jd->x p≠0))):cycF ps hi p k x=x:=by
 induction k using Nat.casesOn with
 |zero=>rfl
 |succ k=>exact Y7 h
theorem mW{x:Pl->Int}(h:glG hi p∈(cmG ps hi p x).1/\(hi=Jd->x p≠0)):cycF ps hi p (k+1) x=cycF ps hi p k (nxG hi p x (wayF (cmG ps hi p x) 17 (glG hi p))):=Y8 h
theorem kG(s:Bs):∀ (k:Nat) (y:Nd),(wayF s k y).R.length<=k/\(wayF s k y).L.length<=k
 |0=>λy=>⟨QA _,QA _⟩
 |k+1=>λy=>by
  induction h:s.2 y with
  |none=>rw[kU h];exact⟨QV _,QV _⟩
  |some e=>
   obtain⟨N,Y⟩:=kG s k e.1;rw[kE (z:=e.1) (p:=e.2) h]
   induction y.isR with
   |true=>exact⟨Yh N,KN Y⟩
   |false=>exact⟨KN N,Yh Y⟩
theorem qh(l:List Pl)(p:Pl)(i:Nat):cR (l++[p]) i=cR l i+ind (p.1=i):=by
 have:=l9 p l i;unfold cR at this ⊢;rw[WY,Nat.add_comm,<-WY];exact this
theorem rB(l:List Pl)(p:Pl)(i:Nat):cC (l++[p]) i=cC l i+ind (p.2=i):=by
 have:=m7 p l i;unfold cC at this ⊢;rw[WY,Nat.add_comm,<-WY];exact this
theorem nS(δ:Int)(R:List Pl)(p:Pl)(x:Pl->Int):incs δ (R++[p]) x p=incs δ R x p+δ:=by
 unfold incs;rw[List.foldl_append];exact bU _ _ _
theorem xM(a i:Nat):ind (Nd.r a= .r i)=ind (a=i):=by
 by_cases h:a=i
 ·rw[fz h,fz (h▸rfl)]
 ·rw[dJ h,dJ λq=>h (Nd.r.inj q)]
theorem xJ(a i:Nat):ind (Nd.c a= .c i)=ind (a=i):=by
 by_cases h:a=i
 ·rw[fz h,fz (h▸rfl)]
 ·rw[dJ h,dJ λq=>h (Nd.c.inj q)]
theorem pG(a i:Nat):ind (Nd.r a= .c i)=0:=dJ λq=>nomatch q
theorem sN(a i:Nat):ind (Nd.c a= .r i)=0:=dJ λq=>nomatch q
section
variable{ps:List Pl}{h w:Nat}{R C:Nat->Int}{x:Pl->Int}{hi:Bool}{p:Pl}
theorem oJ(S:Sz ps h w)(D:p∈ps):Bfs (bn (Ja p) ps) x [stG hi p] h w (cmG ps hi p x)/\∀z∈(cmG ps hi p x).1,∀e∈nbrs (bn (Ja p) ps) z,okE x z e.2=Jc->e.1∈(cmG ps hi p x).1:=by
 obtain⟨N,Y⟩:=S.mem p D;refine qa (λq o=>S.mem q (bn_mem.mp o).1) (Kh S.h8 S.w8) 17 0 _ (.start (Qy.mpr ⟨λq=>(bQ q),.nil⟩) λy W=> ?_) (λi z hi=>absurd hi<|Wf _) (QV _) (by decide);rw[Qk.mp W]
 induction hi with
 |true=>exact Qe _<|Ql.mpr ⟨_,Qi.mpr Y,rfl⟩
 |false=>exact Qf _<|Ql.mpr ⟨_,Qi.mpr N,rfl⟩
theorem vA(S:Sz ps h w)(F:Good ps h w R C (.tab x)){U L:List Pl}(Y:∀q∈U,q∈ps)(K:∀q∈L,q∈ps)(nd:L.Nodup)(P:0<=a)(l:∀q∈L,a<=x q)(r:∀i,cR U i=cR L i)(c:∀i,cC U i=cC L i):
  Good ps h w R C (.tab<|incs (-a) L (incs a U x)):=by
 have s:∀f:Pl->Bool,((U.countP f:Nat):Int)=(L.countP f:Nat)->sumOn f ps (incs (-a) L<|incs a U x)=sumOn f ps x:=λf e=>by
  rw[fD S.nd K,fD S.nd Y,Int.neg_mul,e];exact Int.add_neg_cancel_right _ _
 refine⟨λq o=> ?_,λi hi=>(s _<|r i).trans (F.2.1 i hi),λi hi=>(s _<|c i).trans (F.2.2 i hi)⟩;have N:=mP P (R:=U) (x:=x) q;by_cases m:q∈L
 ·rw[o7 nd m];exact WL<|QP (l q m) N
 ·rw[eT m];exact QP (F.1 q o) N
structure TurnG(ps:List Pl)(h w:Nat)(R C:Nat->Int)(hi:Bool)(p:Pl)(x:Pl->Int):Prop where
 gB:∃j:Nat,(cmG ps hi p x).1[j]? =Ja (glG hi p)
 inR:∀q∈upR hi p (wayF (cmG ps hi p x) 17<|glG hi p),q∈ps
 inL:∀q∈dnL hi p (wayF (cmG ps hi p x) 17<|glG hi p),q∈ps
 ne:dnL hi p (wayF (cmG ps hi p x) 17<|glG hi p)≠ []
 fe:Good ps h w R C (.tab<|nxG hi p x (wayF (cmG ps hi p x) 17<|glG hi p))
 ms:msG R hi p (nxG hi p x<|wayF (cmG ps hi p x) 17 (glG hi p))<msG R hi p x
theorem Am(F:Good ps h w R C (.tab x))(D:p∈ps)(N:p.1<h):x p<=R p.1:=by
 rw[<-F.2.1 p.1 N];unfold rowS sumOn;have n:∀q∈ps.filter λq=>decide<|q.1=p.1,0<=x q:=λq o=>F.1 q (Qm.mp o).1;have m:p∈ps.filter λq=>decide (q.1=p.1):=Qm.mpr ⟨D,Y4 rfl⟩;generalize ps.filter (λq=>decide<|q.1=p.1)=l at n m
 induction l with
 |nil=>cases m
 |cons a l i=>
  rw[Qq,QY];have Y:=n a<|.head _;have z:=jx (f:=x) λq o=>n q<|.tail _ o;cases m with
  |head=>exact Kr z
  |tail _ m=>exact QP (i (λq o=>n q<|.tail _ o) m)<|Int.le_add_of_nonneg_left Y
theorem jr(S:Sz ps h w)(F:Good ps h w R C (.tab x))(D:p∈ps)(P:glG hi p∈(cmG ps hi p x).1)(hx:hi=Jd->x p≠0):TurnG ps h w R C hi p x:=by
 obtain⟨b,o0⟩:=oJ (x:=x) (hi:=hi) S D;obtain⟨j,H⟩:=Yt P;have T:=b.len;have M:=(QC.mp H).1;have W:=pK b 17 j _ H (by exact zll M<|zle T (zb2 (Kh S.h8 S.w8) rfl));generalize y:wayF (cmG ps hi p x) 17 (glG hi p)=V at W;have E:=Qk.mp W.e;have v:p∉V.R:=λq=>(bn_mem.mp<|W.r p q).2 rfl;have L:p∉V.L:=λq=>(bn_mem.mp (W.l p q).1).2 rfl;have X:∀q∈V.R,q∈ps:=λq o=>(bn_mem.mp<|W.r q o).1;have s:∀q∈V.L,q∈ps:=λq o=>(bn_mem.mp (W.l q o).1).1;have sn:∀l:List Pl,(∀q∈l,q∈ps)->∀q∈l++[p],q∈ps:=λl T q o=>(Qn.mp o).elim (T q) λz=>by rw[Qk.mp z];exact D
 have r:=W.row;have c:=W.col;rw[E] at r c;have fin:dnL hi p V≠ []->(dnL hi p V).Nodup->(∀q∈dnL hi p V,q∈ps/\0<x q)->(∀q∈upR hi p V,q∈ps)->(∀i,cR (upR hi p V) i=cR (dnL hi p V) i)->(∀i,cC (upR hi p V) i=cC (dnL hi p V) i)->(1<=amG hi p x V->Good ps h w R C (.tab<|nxG hi p x V)->msG R hi p (nxG hi p x V)<msG R hi p x)->TurnG ps h w R C hi p x:=λQ O n g Z U t=>by
  have A:=iE (is:=(dnL hi p V).map x) λq=>Q<|Ww.mp q;have B:1<=amG hi p x V:=by
   obtain⟨q,o,e⟩:=Ql.mp A.1;unfold amG;rw[<-e];exact(n q o).2
  have G:Good ps h w R C (.tab<|nxG hi p x V):=vA S F g (λq o=>(n q o).1) O (QP (by decide) B) (λq o=>A.2 _<|Ql.mpr ⟨q,o,rfl⟩) Z U;refine⟨⟨j,H⟩,?_,?_,?_,?_,?_⟩<;>rw[y]
  ·exact g
  ·exact λq o=>(n q o).1
  ·exact Q
  ·exact G
  ·exact t B G
 clear y
 induction hi with
 |true=>
  refine fin (λq=> ?_) W.nd (λq o=>⟨s q o,(W.l q o).2⟩) (sn _ X) (λi=> ?_) (λi=> ?_) λB G=> ?_
  ·have N:=c p.2;rw[show V.L=[] from q] at N;rw[show ind (glG Jc p=Nd.c p.2)=0 from pG _ _,show ind (stG Jc p=Nd.c p.2)=1 from fz rfl] at N;have Y:(0:Int)<=cC V.R p.2:=QU _;have J:cC V.R p.2-0=0-1:=N;rw[WJ] at J;rw[J] at Y;exact absurd Y<|by decide
  ·have N:=r i;rw[show ind (stG Jc p=Nd.r i)=0 from sN _ _,show ind (glG Jc p=Nd.r i)=ind (p.1=i) from xM _ _] at N;show cR (V.R++[p]) i=cR V.L i;rw[qh];exact zg1 N
  ·have N:=c i;rw[show ind (glG Jc p=Nd.c i)=0 from pG _ _,show ind (stG Jc p=Nd.c i)=ind (p.2=i) from xJ _ _] at N;show cC (V.R++[p]) i=cC V.L i;rw[rB];exact zg1 N
  ·have f:nxG Jc p x V p=x p+amG Jc p x V:=by
    show incs (-amG Jc p x V) V.L (incs (amG Jc p x V) (V.R++[p]) x) p=_;rw[eT L,nS,eT v]
   have Y:=Am G D (S.mem p D).1;show(R p.1-nxG Jc p x V p).toNat<(R p.1-x p).toNat;exact zg3 f B Y
 |false=>
  have hx:=hx rfl;have m:=F.1 p D;refine fin (λq=>by cases List.append_eq_nil_iff.mp q with|intro _ q=>exact nomatch q) (Qo.mpr ⟨W.nd,Qy.mpr ⟨λq=>(nomatch q),.nil⟩,λa I b k q=>L<|by rw[Qk.mp k] at q;exact q▸I⟩) (λq o=> ?_) X (λi=> ?_) (λi=> ?_) λB G=> ?_
  ·rcases Qn.mp o with z|z
   ·exact⟨s q z,(W.l q z).2⟩
   ·rw[Qk.mp z];exact⟨D,Int.lt_iff_le_and_ne.mpr ⟨m,Ne.symm hx⟩⟩
  ·have N:=r i;rw[show ind (glG Jd p=Nd.r i)=0 from sN _ _,show ind (stG Jd p=Nd.r i)=ind (p.1=i) from xM _ _] at N;show cR V.R i=cR (V.L++[p]) i;rw[qh];exact zg2 N
  ·have N:=c i;rw[show ind (stG Jd p=Nd.c i)=0 from pG _ _,show ind (glG Jd p=Nd.c i)=ind (p.2=i) from xJ _ _] at N;show cC V.R i=cC (V.L++[p]) i;rw[rB];exact zg2 N
  ·have f:nxG Jd p x V p=x p+ -amG Jd p x V:=by
    show incs (-amG Jd p x V) (V.L++[p]) (incs (amG Jd p x V) V.R x) p=_;rw[nS,eT L,eT v]
   have Y:=G.1 p D;show(nxG Jd p x V p).toNat<(x p).toNat;exact ztn (Int.lt_iff_le_and_ne.mpr ⟨m,Ne.symm hx⟩) B f
theorem ml(S:Sz ps h w)(D:p∈ps):∀ (k:Nat) (x:Pl->Int),Good ps h w R C (.tab x)->msG R hi p x<k->Good ps h w R C (.tab (cycF ps hi p k x))/\¬ (glG hi p∈(cmG ps hi p (cycF ps hi p k x)).1/\(hi=Jd->cycF ps hi p k x p≠0))
 |0=>λx o0 M=>absurd M<|Wf _
 |k+1=>λx F M=>by
  by_cases q:glG hi p∈(cmG ps hi p x).1/\(hi=Jd->x p≠0)
  ·have T:=jr S F D q.1 q.2;rw[mW q];exact ml S D k _ T.fe<|zll T.ms (zs M)
  ·rw[j2 q];exact⟨F,q⟩
theorem ue(S:Sz ps h w)(F:Good ps h w R C (.tab x))(D:p∈ps){pa pb:Nat->Bool}(Z:∀q∈ps,q≠p->pa q.1=pb q.2\/x q=0)(N:pa p.1=Jc)(Y:pb p.2=Jd):
  x p=(((Qc h).filter pa).map R).sum-(((Qc w).filter pb).map C).sum:=by
 have T:(((Qc h).filter pa).map R).sum=sumOn (λq=>decide<|q.1∈(Qc h).filter pa) ps x:=by
  rw[<-du (f:=(·.1)) (Km.filter _)];exact Ub Wo<|Qj λi hi=>(F.2.1 i<|Qi.mp (Qm.mp hi).1).symm
 have j:(((Qc w).filter pb).map C).sum=sumOn (λq=>decide<|q.2∈(Qc w).filter pb) ps x:=by
  rw[<-du (f:=(·.2)) (Km.filter _)];exact Ub Wo<|Qj λi hi=>(F.2.2 i<|Qi.mp (Qm.mp hi).1).symm
 have c:∀q∈ps,decide (q.1∈(Qc h).filter pa)=pa q.1:=λq o=>by
  rw[KM,Ua,Qm,Qi];exact⟨λz=>z.2,λz=>⟨(S.mem q o).1,z⟩⟩
 have m:∀q∈ps,decide (q.2∈(Qc w).filter pb)=pb q.2:=λq o=>by
  rw[KM,Ua,Qm,Qi];exact⟨λz=>z.2,λz=>⟨(S.mem q o).2,z⟩⟩
 have k:sumOn (λq=>decide<|q.1∈(Qc h).filter pa) ps (upd x p<|x p+ -x p)=sumOn (λq=>decide<|q.2∈(Qc w).filter pb) ps (upd x p<|x p+ -x p):=by
  refine hX λq o=> ?_;by_cases e:q=p
  ·subst e;exact .inr<|(bU _ _ _).trans (Int.add_right_neg _)
  ·rw[c q o,m q o,cm _ _ e];exact Z q o e
 rw[gu S.nd D,gu S.nd D,c p D,m p D,N,Y,Y8 rfl,Y7 QF] at k;rw[T,j];exact zg4 k
theorem zJ(S:Sz ps h w)(F:Good ps h w R C (.tab x))(D:p∈ps):stG hi p∈(cmG ps hi p x).1/\∀q∈ps,q≠p->(Nd.r q.1∈(cmG ps hi p x).1->Nd.c q.2∈(cmG ps hi p x).1)/\(decide (Nd.r q.1∈(cmG ps hi p x).1)=decide (Nd.c q.2∈(cmG ps hi p x).1)\/x q=0):=by
 obtain⟨b,c⟩:=oJ (x:=x) (hi:=hi) S D;refine⟨b.has _<|.head _,λq o n=> ?_⟩;have Q:q∈bn (Ja p) ps:=bn_mem.mpr ⟨o,λz=>n (sj z).symm⟩;have K:Nd.r q.1∈(cmG ps hi p x).1->Nd.c q.2∈(cmG ps hi p x).1:=λr=>c _ r (.c q.2,q) (Ql.mpr ⟨q,Qm.mpr ⟨Q,Y4 rfl⟩,rfl⟩) rfl;refine⟨K,?_⟩
 rcases Int.lt_or_eq_of_le (F.1 q o) with z|z
 ·exact .inl<|decide_eq_decide.mpr ⟨K,λr=>c _ r (.r q.1,q) (Ql.mpr ⟨q,Qm.mpr ⟨Q,Y4 rfl⟩,rfl⟩)<|decide_eq_true z⟩
 ·exact .inr z.symm
end
abbrev dIn(ps:List Pl)(x:Pl->Int)(xs:List Nd):D:= .inst "Bounds" [dCt ps x,md Nd.key (nearG ps) xs]
theorem pH(a b:D):dfld G1 "counts" (.inst "Bounds" [a,b])=Ja a:=rfl
theorem qI(a b:D):dfld G1 "near" (.inst "Bounds" [a,b])=Ja b:=rfl
theorem mT(p:Pl):dsub (dP p) (.int 0)=Ja (.int p.1):=rfl
theorem mJ(p:Pl):dsub (dP p) (.int 1)=Ja (.int p.2):=rfl
theorem t4{p:Pl}(N:p.1<8)(h:p.2<8):dQ (pkey p)=Jc:=by
 show(decide _&&decide _)=Jc;rw[Y4 ⟨QU _,Kf.mpr N⟩,Y4 ⟨QU _,Kf.mpr h⟩];rfl
def endF(ps:List Pl)(R:Nat->Int)(hi:Bool)(p:Pl)(x:Pl->Int):Pl->Int:=cycF ps hi p (msG R hi p x+1) x
inductive EnK:Option Int->D->Prop
 |none:EnK Option.none .none
 |some (v:Int):EnK (Ja v) (.int v)
theorem Bw{d:D}(E:EnK e d){A B:Prop}(N:∀v,e=Ja v->d= .int v->A->B)(h:A):iW d=Jd/\cond (!d.isNone) B A:=by
 induction E with
 |none=>exact⟨rfl,h⟩
 |some v=>exact⟨rfl,N v rfl rfl h⟩
theorem ct{K:DRho->Prop}(h:K L):dwss G c u [] L (donFl K Q) X:=h
def leG(hi:Bool)(a b:Int):Prop:=bif hi then a<=b else b<=a
def EnR(hi:Bool)(p:Pl)(e:Option Int)(O y:Pl->Int):Prop:=y=O\/∃v,e=Ja v/\leG hi v (y p)/\leG hi (y p) (O p)
theorem EnR.no{O y:Pl->Int}(h:EnR hi p Jb O y):y=O:=h.elim id λ⟨_,q,_⟩=>ns q
theorem hM{R C:Nat->Int}(S:Sz ps h w)(D:p∈ps):∀ (k:Nat) (x:Pl->Int),Good ps h w R C (.tab x)->leG hi (x p) (cycF ps hi p k x p)
 |0=>λx o0=>by
  rcases hi with⟨⟩
  ·exact QZ _
  ·exact QZ _
 |k+1=>λx F=>by
  by_cases q:glG hi p∈(cmG ps hi p x).1/\(hi=Jd->x p≠0)
  ·have T:=jr S F D q.1 q.2;have I:=hM (hi:=hi) S D k _ T.fe;have m:=T.ms;rw[mW q]
   rcases hi with⟨⟩
   ·exact QP I<|KG.mp λz=>Kc.mpr (Int.toNat_le_toNat<|Yy z) m
   ·exact QP (KG.mp λz=>Kc.mpr (Int.toNat_le_toNat<|Int.sub_le_sub_left (Yy z) (R p.1)) m) I
  ·rw[j2 q]
   rcases hi with⟨⟩
   ·exact QZ _
   ·exact QZ _
inductive GlI(ps:List Pl)(h w:Nat)(R Cc:Nat->Int)(hi:Bool)(p:Pl)(O:Pl->Int)(sf gd dE:D)(b1 b2 b3:Bool)(k:Nat)(Δ:DRho):Prop
 |mk (x:Pl->Int) (f:Nat) (u1 u2 u3 u4 u5:Option (D×Bool)) (F:Good ps h w R Cc (.tab x)) (hk:msG R hi p x=k) (hf:k<f) (hO:cycF ps hi p f x=O)
  (e:Δ=(Nb "self" b1 sf<|Nb "place" b2 (dP p)<|Nb "enough" b3 dE<|Nb "counts" Jc (dCt ps x)<|Nb "goal" Jc gd<|No "came" u1<|No "raised" u2<|No "lowered" u3<|No "start" u4<|No "amount" u5<|[])):GlI ps h w R Cc hi p O sf gd dE b1 b2 b3 k Δ
section
variable{C:Cx}{mg mb:Jq->Option Jf}{n:Nat}{Q:D->Bool->Prop}{X:DX}
theorem i5(e:Env1 C G1 mg mb){ps:List Pl}{R u:Nat->Int}{L:Pl->Int}(S:Sz ps h w)(N:NearX ps xs)(l:ps.length<=64)(s:Good ps h w R u (.tab L))(t:p∈ps){d V W:Bool}{dE:D}(I:EnK i dE)(m:∀y,EnR Jc p i (endF ps R Jc p L) y->Q (.tup [dCt ps y,dCm (cmG ps Jc p y)]) Jc):aQ (aO C (n+2)) "Bounds.greatest" [(dIn ps L xs,d),(dP p,V),(dE,W)] Q X:=by
 refine e.fn dp (bu 44 rfl) rfl λcl J PQ PX g=> ?_;dsimp only[dp];dsimp only[aZ,ch,bt];have P:h+w<=16:=Kh S.h8 S.w8;refine bk ?_
 (dsimp only[bl,qU,bA,aH,aL,Qa,aM,aB,aA,aC,aE,ca,ei,aF,aJ,aK];refine⟨rfl,?_⟩)
 refine aY (pH _ _) ?_;dsimp only[xo];refine⟨⟨λq=>(by rw[Ww.mp q] at t;cases t),λk M=> ?_,de (λp=>D.int<|L p) (λa=>rfl) _⟩,?_⟩
 ·obtain⟨q,o,rfl⟩:=Ql.mp M;obtain⟨E,Y⟩:=S.mem q o;exact t4 (QK E S.h8)<|QK Y S.w8
 refine bk ?_;dsimp only[bS,fsts,dtup,aC,aG,aV,aU,aE,aI,aW,aT,aR,aN,aD,aF,Qa,aJ,aB,aA,aK,cf];refine gV ?_;dsimp only[br];refine aY (mT p) ?_
 (dsimp only[bv,br,bA,aH,aL,Qa,aM,aB,aA];refine⟨by decide,?_⟩)
 generalize U:endF ps R Jc p L=O at m;refine iu rfl (msG R Jc p L+1) ?_;refine fA (GlI ps h w R u Jc p O (dIn ps L xs) (dN<|.r p.1) dE d V W) ?_ _ (msG R Jc p L) _ (QI _) ⟨L,_,_,_,_,_,_,s,rfl,QI _,U,rfl⟩;rintro k Δ ⟨x,f,u1,r,u3,u4,u5,F,M,c,U,rfl⟩ K B;clear s;dsimp only[cD,bw,aA];obtain⟨f,rfl⟩:∃G,f=G+1:=⟨f-1,by exact zpr c⟩
 obtain⟨b,o0⟩:=oJ (x:=x) (hi:=Jc) S t;have T:=jr (hi:=Jc) S F t;refine bk ?_
 (dsimp only[aP,flags,aC,aG,aU,aE,aI,aT,aD,aF,Qa,aJ,aB,aA,aK,bH,fsts,dnew,aV,aW,bS,dtup,aR,aN,cf,dA,aS,ei];refine⟨rfl,?_⟩)
 refine aY (qI _ _) ?_;dsimp only[dA,aS];refine f9 ?_;dsimp only[br];refine aY (mJ p) ?_
 (dsimp only[bv,br,aH];refine⟨by decide,by decide,?_⟩)
 refine g.hc<|jO (ban:=Ja p) (st:=[.c p.2]) e N S.mem S.h8 S.w8 (Qy.mpr ⟨λq=>(bQ q),.nil⟩) (λy z=>b.val y<|b.has y z) ?_;dsimp only[aA,dA,bA,aH,aL,Qa,aM,aB];refine cp ?_;dsimp only[cq,bw,aA,c6,aX,aD,aF,Qa,aJ,aB,aK,aR,cW,g8];rw[ti,f0,oa,nK dB];refine rZ (λE=> ?_) λE=> ?_
 ·rw[j2 λq=>E q.1] at U;refine cL ?_
  (dsimp only[dg,cH,aV,df,aW,b9,aL,Qa,aM,aB,aA,aF,aJ,aK,d4];refine⟨by decide,?_⟩)
  exact g.qr<|m _ (.inl U)
 refine Bw I (λv hv A Z=> ?_) ?_
 ·subst A;refine aY (c7 b8 (cY p) t) ?_;dsimp only[oL];refine cE (λY=> ?_) λo0=>Z;refine cL ?_
  (dsimp only[dg,cH,aV,df,aW,b9,aL,Qa,aM,aB,aA,aF,aJ,aK,d4];refine⟨by decide,?_⟩)
  exact g.qr<|m _ (.inr ⟨v,hv,Y,U▸hM S t _ _ F⟩)
 have T:=T E λq=>Bool.noConfusion q;rw[mW (hi:=Jc) ⟨E,λq=>Bool.noConfusion q⟩] at U;obtain⟨j,H⟩:=T.gB;refine ct ?_;refine dt rfl ?_
 (dsimp only[aP,flags,aC,aG,aU,aE,aI,aT,aD,aF,Qa,aJ,aB,aA,aK,dA,aS];refine⟨rfl,?_⟩)
 refine g.hc<|sI (y:= .r p.1) e b P H ?_;dsimp only[aA,b6,tgl,bC,bL,bD,bK,aB,aH,bA,vV,aL,Qa,aM,bJ];refine bk ?_
 (dsimp only[bl,nC,aC,aE,xc,bA,aH,aL,Qa,aM,aA,aB];refine⟨rfl,?_⟩)
 refine bV rfl ?_;dsimp only[fsts,dW,aC,aG,aU,aE,aI,aT,ck,aD,aF,Qa,aJ,aB,aA,aK,bj,bB,cw];refine bE dP (λp=> .int (x p)) (λq o K k=> ?_) ?_
 ·dsimp only[bp,cA,b5,aM,Qa,aL,aB,aA,bJ];dsimp only[elD];dsimp only[aR,aD,aJ,Qa,aF,aB,aA,aK,dA];refine aY (c7 b8 (cY q)<|T.inL q o) ?_;dsimp only[bv];exact k
 refine g7 (fx _ _) ?_;refine⟨λq=>T.ne<|Ww.mp q,?_⟩;refine k6 ?_;rw[show spl _ _=Ja ([],"counts",[.bin .add (.loc "raised") (.list [.loc "place"]),.loc "lowered",.loc "amount"]) from rfl,tO]
 (dsimp only[aL,Qa,aB,aA,aC,aG,aE,aI,aD,aF,aK,bv,bj,bq,bH,fsts,dnew,aV,aU,aW,aT,ik,tgl,bI];refine⟨rfl,rfl,rfl,by decide,?_⟩)
 refine⟨dM<|by rw[QG,Qd];exact zb2 (Kk (kG _ 17 _).1 1) rfl,?_⟩;rw[ju dP,de dP d3]
 (dsimp only[aA];refine⟨rfl,?_⟩)
 refine g.io<|pJ e S.nd l T.inR T.inL ?_;exact B _ _ (zq T.ms M) ⟨_,f,_,_,_,_,_,T.fe,rfl,zll (zq T.ms M)<|zs c,U,rfl⟩
theorem nF(e:Env1 C G1 mg mb){ps:List Pl}{R u:Nat->Int}{L:Pl->Int}(S:Sz ps h w)(N:NearX ps xs)(l:ps.length<=64)(s:Good ps h w R u (.tab L))(t:p∈ps){d V W:Bool}{dE:D}(I:EnK i dE)(m:∀y,EnR Jd p i (endF ps R Jd p L) y->Q (.tup [dCt ps y,dCm (cmG ps Jd p y)]) Jc):aQ (aO C (n+2)) "Bounds.least" [(dIn ps L xs,d),(dP p,V),(dE,W)] Q X:=by
 refine e.fn eg (bu 45 rfl) rfl λcl J PQ PX g=> ?_;dsimp only[eg];dsimp only[aZ,ch,bt];have P:h+w<=16:=Kh S.h8 S.w8;refine bk ?_
 (dsimp only[bl,qU,bA,aH,aL,Qa,aM,aB,aA,aC,aE,ca,ei,aF,aJ,aK];refine⟨rfl,?_⟩)
 refine aY (pH _ _) ?_;dsimp only[xo];refine⟨⟨λq=>(by rw[Ww.mp q] at t;cases t),λk M=> ?_,de (λp=>D.int<|L p) (λa=>rfl) _⟩,?_⟩
 ·obtain⟨q,o,rfl⟩:=Ql.mp M;obtain⟨E,Y⟩:=S.mem q o;exact t4 (QK E S.h8)<|QK Y S.w8
 refine bk ?_;dsimp only[bS,fsts,dtup,aC,aG,aV,aU,aE,aI,aW,aT,aR,aN,aD,aF,Qa,aJ,aB,aA,aK,cf];refine f9 ?_;dsimp only[br];refine aY (mJ p) ?_
 (dsimp only[bv,br,bA,aH,aL,Qa,aM,aB,aA];refine⟨by decide,?_⟩)
 generalize U:endF ps R Jd p L=O at m;refine iu rfl (msG R Jd p L+1) ?_;refine fA (GlI ps h w R u Jd p O (dIn ps L xs) (dN<|.c p.2) dE d V W) ?_ _ (msG R Jd p L) _ (QI _) ⟨L,_,_,_,_,_,_,s,rfl,QI _,U,rfl⟩;rintro k Δ ⟨x,f,u1,u2,u3,u4,u5,F,M,c,U,rfl⟩ K B;clear s;dsimp only[cD,bw,aA];obtain⟨f,rfl⟩:∃G,f=G+1:=⟨f-1,by exact zpr c⟩
 obtain⟨b,o0⟩:=oJ (x:=x) (hi:=Jd) S t;have T:=jr (hi:=Jd) S F t;refine bk ?_
 (dsimp only[aP,flags,aC,aG,aU,aE,aI,aT,aD,aF,Qa,aJ,aB,aA,aK,bH,fsts,dnew,aV,aW,bS,dtup,aR,aN,cf,dA,aS,ei];refine⟨rfl,?_⟩)
 refine aY (qI _ _) ?_;dsimp only[dA,aS];refine gV ?_;dsimp only[br];refine aY (mT p) ?_
 (dsimp only[bv,br,aH];refine⟨by decide,by decide,?_⟩)
 refine g.hc<|jO (ban:=Ja p) (st:=[.r p.1]) e N S.mem S.h8 S.w8 (Qy.mpr ⟨λq=>(bQ q),.nil⟩) (λy z=>b.val y<|b.has y z) ?_;dsimp only[aA,dA,bA,aH,aL,Qa,aM,aB];have fin:¬ (glG Jd p∈(cmG ps Jd p x).1/\(Jd=Jd->x p≠0))->Q (.tup [dCt ps x,dCm (cmG ps Jd p x)]) Jc:=λq=>by
  rw[j2 q] at U;exact m _<|.inl U
 refine cp ?_;dsimp only[cq,bw,aA,c6,aX,aD,aF,Qa,aJ,aB,aK,aR,cW,ej,deq,aN,g8];rw[ti,f0,oa,nK dB];refine rZ (λE=> ?_) λE=> ?_
 ·refine cL ?_
  (dsimp only[dg,cH,aV,df,aW,b9,aL,Qa,aM,aB,aA,aF,aJ,aK,d4];refine⟨by decide,?_⟩)
  exact g.qr<|fin λq=>E q.1
 refine aY (c7 b8 (cY p) t) ?_
 (dsimp only[cj];refine⟨⟨rfl,rfl⟩,?_⟩)
 refine cE (λY=> ?_) λY=> ?_
 ·refine cL ?_
  (dsimp only[dg,cH,aV,df,aW,b9,aL,Qa,aM,aB,aA,aF,aJ,aK,d4];refine⟨by decide,?_⟩)
  exact g.qr<|fin λq=>q.2 rfl Y
 refine Bw I (λv hv r A=> ?_) ?_
 ·subst r;refine aY (c7 b8 (cY p) t) ?_;dsimp only[lf];refine cE (λY=> ?_) λo0=>A;refine cL ?_
  (dsimp only[dg,cH,aV,df,aW,b9,aL,Qa,aM,aB,aA,aF,aJ,aK,d4];refine⟨by decide,?_⟩)
  exact g.qr<|m _ (.inr ⟨v,hv,Y,U▸hM S t _ _ F⟩)
 have T:=T E λo0=>Y;rw[mW ⟨E,λo0=>Y⟩] at U;obtain⟨j,Z⟩:=T.gB;refine ct ?_;refine dt rfl ?_
 (dsimp only[aP,flags,aC,aG,aU,aE,aI,aT,aD,aF,Qa,aJ,aB,aA,aK,dA,aS];refine⟨rfl,?_⟩)
 refine g.hc<|sI (y:= .c p.2) e b P Z ?_;dsimp only[aA,b6,tgl,bC,bL,bD,bK,aB,aH,bA,vV,aL,Qa,aM,bJ];have H:=(kG (cmG ps Jd p x) 17<|.c p.2).2;refine bk ?_
 (dsimp only[bl,nC,aC,aE,xc,bA,aH,aL,Qa,aM,aA,aB];refine⟨rfl,?_⟩)
 refine bV rfl ?_
 (dsimp only[fsts,dW,aC,aG,aU,aE,aI,aT,ck,bq,bH,dnew,aV,aW,aD,aF,Qa,aJ,aB,aA,aK,bj,ik,tgl,cw];refine⟨by decide,?_⟩)
 refine⟨dM<|by rw[QG,Qd];exact zb2 (Kk H 1) rfl,?_⟩;rw[ju dP];refine bE dP (λp=> .int (x p)) (λq o K k=> ?_) ?_
 ·dsimp only[bp,cA,b5,aM,Qa,aL,aB,aA,bJ];dsimp only[elD];dsimp only[aR,aD,aJ,Qa,aF,aB,aA,aK,dA];refine aY (c7 b8 (cY q)<|T.inL q o) ?_;dsimp only[bv];exact k
 refine g7 (fx _ _) ?_;refine⟨λq=>T.ne<|Ww.mp q,?_⟩;refine k6 ?_;rw[show spl _ _=Ja ([],"counts",[.loc "raised",.bin .add (.loc "lowered")<|.list [.loc "place"],.loc "amount"]) from rfl,tO]
 (dsimp only[aL,Qa,aB,aA,aC,aG,aE,aI,aD,aF,aK,bv,bq,bH,fsts,dnew,aV,aU,aW,aT,bj,ik,tgl,bI];refine⟨rfl,rfl,rfl,by decide,?_⟩)
 refine⟨dM<|by rw[QG,Qd];exact zb2 (Kk H 1) rfl,?_⟩;rw[ju dP,de dP d3]
 (dsimp only[aA];refine⟨rfl,?_⟩)
 refine g.io<|pJ e S.nd l T.inR T.inL ?_;exact B _ _ (zq T.ms M) ⟨_,f,_,_,_,_,_,T.fe,rfl,zll (zq T.ms M)<|zs c,U,rfl⟩
end
inductive PlK(h w:Nat):D->Bool->Prop
 |nt {d:D} (e:disi G1 d ["tuple"]=Ja Jd):PlK h w d Jd
 |tl {l:List D} (e:decide ((l.length:Int)=2)=Jd):PlK h w (.tup l) Jd
 |bb:PlK h w (.tup [.bool Jd,.bool Jd]) Jd
 |ii (a b:Int):PlK h w (.tup [.int a,.int b]) (decide (a>=0)&&(decide (b>=0)&&(decide (a<h)&&decide (b<w))))
inductive PlA(c:List (List (Option Int)))(h w:Nat):D->Option Pl->Prop
 |bad {d:D} {v:Bool} (k:PlK h w d v) (e:v=Jc->∃q,d=dP q/\q∉psF c h w):PlA c h w d Option.none
 |ok {p:Pl} (hp:p∈psF c h w):PlA c h w (dP p) (Ja p)
theorem Ay{p:Pl}(N:p.1<h)(Y:p.2<w):PlK h w (dP p) Jc:=by
 have:=PlK.ii (h:=h) (w:=w) p.1 p.2;rw[Y4 (show(p.1:Int)>=0 from QU _),Y4 (show(p.2:Int)>=0 from QU _),Y4<|Kf.mpr N,Y4 (Kf.mpr Y)] at this;exact this
theorem nG(ps:List Pl)(q:Pl):((ps.map dP).any λd=>D.eqv d (dP q))=decide (q∈ps):=by
 rw[List.any_map,KM,Ki,Ua]
 constructor
 ·rintro ⟨x,hx,h⟩;have h:D.eqv (dP x) (dP q)=Jc:=h;rw[jH,Ua] at h;exact h▸hx
 ·exact λi=>⟨q,i,cQ _⟩
theorem vo{a b:D}(N:c=Jc->a.atom=v)(h:c=Jd->b.atom=v):(cond c a b).atom=v:=by
 induction c with
 |true=>exact N rfl
 |false=>exact h rfl
theorem Bx{K:Bool->Prop}(e:t=Ja v)(k:K v):oB K t:=by subst e;exact k
theorem xQ{M:D->DRho->Prop}(a i:E):dwm G c z (.sub a i) L M=dwe G c (.sub a i) z (λd t=>t=Jb/\M d L) λo0 o0=>False:=rfl
def lowD(ps:List Pl)(h w:Nat)(p:Pl)(x:Pl->Int):D:=cond (decide<|x p>0) (.tup [.int (x p),dNs<|numF Jc h (cmG ps Jd p x).1,dNs (numF Jd w (cmG ps Jd p x).1)])<|.tup [.int 0,.list [],.list []]
def higD(ps:List Pl)(h w:Nat)(p:Pl)(x:Pl->Int):D:= .tup [.int (x p),dNs ((Qc h).filter λk=> !decide (Nd.r k∈(cmG ps Jc p x).1)),dNs ((Qc w).filter λk=> !decide (Nd.c k∈(cmG ps Jc p x).1))]
theorem zgw1{y x w H L:Int}(h:y-x>=w)(a:y<=H)(b:L<=x):w<=H-L:=QP h<|Int.sub_le_sub a b
theorem zgw2{y x w:Int}(h:x+w<=y):y-x>=w:=Int.le_sub_left_of_add_le h
theorem zgw3{z y w L:Int}(h:z<=y-w)(b:L<=z):w<=y-L:=Int.le_sub_right_of_add_le<|KO L w▸Int.add_le_of_le_sub_right (QP b h)
theorem zgw4{z y w:Int}(h:z<=y-w):w<=y-z:=zgw3 h<|QZ z
section
variable{C:Cx}{mg mb:Jq->Option Jf}{n:Nat}{Q:D->Bool->Prop}{X:DX}
theorem tV(e:Env1 C G1 mg mb)(k:Q (.bool Jd) Jc):aQ (aO C (n+1)) "is_count" [(.bool v,b)] Q X:=by
 refine e.fn eG (bu 5 rfl) rfl λc u P PX g=> ?_;dsimp only[eG];dsimp only[aZ,ch,bt];refine bM ?_
 (dsimp only[c6,aX,aH,aN,aD,aF,Qa,aA,aK,bW,bw,c8,Bg,h9,cy,aB,AA];refine⟨rfl,rfl,?_⟩)
 exact g.qr k
theorem rz(e:Env1 C G1 mg mb)(R:Rect c h w){d:D}(hd:PlK h w d v)(k:Q (.bool v) Jc):aQ (aO C (n+2)) "is_place" [(d,b),(dC c,b')] Q X:=by
 refine e.fn gU (bu 18 rfl) rfl λcl cu PQ PX gg=> ?_;dsimp only[gU];dsimp only[aZ,ch,bt];refine cp ?_
 (dsimp only[cq,bw,aA,bW,aP,flags,aC,aG,aE,aI,aR,aN,aD,aF,Qa,aB,aK,aX,eD,deq,bl,ce,cj,ca,c8];refine⟨rfl,?_⟩)
 induction hd with
 |nt h1=>
  refine Bx h1 ?_;dsimp only[lr,aA];refine bM ?_;dsimp only[cD,aH];exact gg.qr k
 |tl h1=>
  (dsimp only[b6,tgl,lT,cN,lm,h9,cy,aB];refine⟨rfl,⟨rfl,rfl⟩,?_⟩)
  rw[h1];dsimp only[lr,aA];refine bM ?_;dsimp only[cD,aH];exact gg.qr k
 |bb=>
  (dsimp only[b6,tgl,bC,BQ,bD,cJ,aA,gK,cV,BF,aH,eE,lT,aV,aW,cN,lm,h9,cy,aB];refine⟨rfl,⟨rfl,rfl⟩,?_⟩)
  rw[show decide (((0+1+1:Nat):Int)=2)=Jc from rfl]
  (dsimp only[cy,aB];refine⟨rfl,?_⟩)
  refine gg.hc<|tV e ?_;dsimp only[bw,lr,aA];refine bM ?_;dsimp only[cD,aH];exact gg.qr k
 |ii x y=>
  (dsimp only[b6,tgl,bC,cM,bD,cJ,aA,gK,cV,bv,aH,eE,lT,aV,aW,cN,lm,h9,cy,aB];refine⟨rfl,⟨rfl,rfl⟩,?_⟩)
  rw[show decide (((0+1+1:Nat):Int)=2)=Jc from rfl]
  (dsimp only[cy,aB];refine⟨rfl,?_⟩)
  refine gg.hc<|ig e ?_;dsimp only[bw];refine rZ (λh1=> ?_) λh1=> ?_
  ·rw[Y5 h1] at k;refine bM ?_;dsimp only[cD,aH];exact gg.qr k
  rw[Y4 h1] at k;refine⟨rfl,?_⟩;refine gg.hc<|ig e ?_;dsimp only[bw];refine rZ (λh2=> ?_) λh2=> ?_
  ·rw[Y5 h2] at k;refine bM ?_;dsimp only[cD,aH];exact gg.qr k
  rw[Y4 h2] at k;refine bM ?_
  (dsimp only[c6,aX,aH,bl,ce,aC,aE,ca,aR,aN,aD,aF,Qa,aA,aB,aK,gK,cV,qS,bw,cI,cN,eE];refine⟨rfl,?_⟩)
  rw[Qd,R.len];refine cE (λh3=> ?_) λh3=> ?_
  ·rw[Y4 h3] at k;refine⟨rfl,?_⟩;refine aY (hW (i:=0) R<|QK Nat.zero_lt_one R.h1) ?_;dsimp only[cI,cN];rw[Qd,(R.at_<|QK Nat.zero_lt_one R.h1).2];exact gg.qr k
  ·rw[Y5 h3] at k;exact gg.qr k
theorem yg(e:Env1 C G1 mg mb)(K:ClsC C cls8){ps:List Pl}{x:Pl->Int}(h:ps.length<=64)(k:∀xs,NearX ps xs->Q (dIn ps x xs) Jc):aQ (aO C (n+3)) "Bounds" [(dCt ps x,Jc)] Q X:=by
 refine xn (c:=cls8) (a1:="counts") (e2:= .call "near_of" [.bi .list [.loc "counts"]]) e.g (todoE e.g e.x) K rfl rfl (by decide) ?_
 (dsimp only[aP,flags,aC,aG,aU,aE,aI,aT,bl,ey,ca,aD];refine⟨rfl,rfl,?_⟩)
 refine⟨⟨by rw[Qd];exact dM<|by exact zb2 h rfl,λq o=> ?_⟩,?_⟩
 ·obtain⟨y,o0,rfl⟩:=Ql.mp o;exact dM (show 2<=1000 by decide)
 rw[mK];refine pA (n:=n) e h λxs N=> ?_;exact⟨rfl,k xs N⟩
theorem AM(e:Env1 C G1 mg mb)(K:ClsC C cls8)(V:VOK c r s h w){d:D}(hd:PlA c h w d o)(kb:o=Jb->X "BadPlace" [])
  (kt:∀p x xs,o=Ja p->d=dP p->p∈psF c h w->outV c r s h w= .tab x->NearX (psF c h w) xs->Q (dIn (psF c h w) x xs) Jc)
  (kx:∀p pa pb,o=Ja p->outV c r s h w= .no pa pb->X "NoTable" [.hole,.hole]):aQ (aO C<|n+5) "bounds_at" [(.tup [dC c,dI r,dI s],b),(d,b')] Q X:=by
 refine e.fn fW (bu 23 rfl) rfl λcl cu PQ PX gg=> ?_;dsimp only[fW];dsimp only[aZ,ch,bt];refine jh ?_
 (dsimp only[aP,flags,aC,aG,aE,aI,aD,aF,Qa,aB,aA,aK,b6,tgl,bC,bL,bD,bK,aS];refine⟨rfl,?_⟩)
 refine gg.hc<|pt e V ?_;have okp:D.okds 40 ((psF c h w).map dP)=Jc:=b7 dP (λp=>rfl) _;have rs:o=Jb->dwss G1 cl cu [.raise "BadPlace" [.str "no hidden place"]] (Nb "view" b (D.tup [dC c,dI r,dI s])<|Nb "place" b' d<|[]) (donFl (λΔ1=>dwss G1 cl cu [.ret (.call "Bounds" [.call "counts_of" [.loc "view"]])] Δ1 PQ PX) PQ) PX:=λq=>by
  refine ny ⟨rfl,rfl,.inl rfl⟩ ?_;dsimp only[fsts,aC,aG,aE,aI,wN];exact gg.qx<|kb q
 refine cp ?_
 induction hd with
 |@bad d v hk hv=>
  (dsimp only[cq,bw,aA,aX,g8,aP,flags,aC,aG,aE,aI,aR,aN,aD,aF,Qa,aB,aK,b6,tgl,bC,bL,bD,bK,fC,cV,bj,aS,bW];refine⟨rfl,?_⟩)
  refine gg.hc<|rz e V.R hk ?_;dsimp only[bw];refine oX (λh1=> ?_) λh1=>rs rfl;obtain⟨q,rfl,hq⟩:=hv h1;refine⟨rfl,?_⟩;refine gg.hc<|iY e V.R ?_;rw[np];refine⟨⟨qb q,okp⟩,?_⟩;rw[nG,Y5 hq];exact rs rfl
 |@ok p hp=>
  obtain⟨p1,p2,o0⟩:=m9 hp
  (dsimp only[cq,bw,aA,aX,g8,aP,flags,aC,aG,aE,aI,aR,aN,aD,aF,Qa,aB,aK,b6,tgl,bC,bL,bD,bK,fC,cV,bj,aS,bW];refine⟨rfl,?_⟩)
  refine gg.hc<|rz e V.R (Ay p1 p2) ?_
  (dsimp only[bw,cy,aB];refine⟨rfl,?_⟩)
  refine gg.hc<|iY e V.R ?_;rw[np];refine⟨⟨qb p,okp⟩,?_⟩;rw[nG,Y4 hp];dsimp only[cy,aB];refine bM ?_
  (dsimp only[aP,flags,aC,aG,aU,aE,aI,aT,aD,aF,Qa,aB,aA,aK,b6,tgl,bC,bL,bD,bK,aS,bB,cb,bI];refine⟨rfl,rfl,?_⟩)
  refine gg.hc (pj e V (λx hx=> ?_) λpa pb hx=>gg.qx<|kx p pa pb rfl hx);dsimp only[aA,dA,aH,br,bB];exact gg.hc<|yg e K (nu V.R.h8 V.R.w8) λxs N=>gg.qr<|kt p x xs rfl rfl hp hx N
theorem yw(e:Env1 C G1 mg mb)(K:ClsC C cls8)(V:VOK c r s h w){d:D}(A:PlA c h w d o)(P:o=Jb->X "BadPlace" [])
  (t:∀p x,o=Ja p->outV c r s h w= .tab x->Q (.tup [dT (tabV c (endF (psF c h w) (r1F c r) Jd p x) h w),dT (tabV c (endF (psF c h w) (r1F c r) Jc p x) h w)]) Jc)
  (v:∀p pa pb,o=Ja p->outV c r s h w= .no pa pb->X "NoTable" [.hole,.hole]):aQ (aO C<|n+6) "ends" [(.tup [dC c,dI r,dI s],b),(d,k)] Q X:=by
 refine e.fn nk (bu 24 rfl) rfl λM u i PX g=> ?_;dsimp only[nk];dsimp only[aZ,ch,bt];have G:Good (psF c h w) h w (r1F c r) (r2F c s) (outV c r s h w):=mH (iL V.R) _ _ _ _ (fill0 V)<|QI _;refine bk ?_
 (dsimp only[aP,flags,aC,aG,aU,aE,aI,aT,aD,aF,Qa,aJ,aB,aA,aK,b6,tgl,bC,bL,bD,bK,aS];refine⟨rfl,?_⟩)
 refine g.hc (AM e K V A (λq=>g.qx<|P q) (λp x H T I U hx N=> ?_) λp pa pb T hx=>g.qx<|v p pa pb T hx);subst I;rw[hx] at G;dsimp only[aA,gc,tgl,bC,d4,bD,bK,aB,bA,aH,aL,Qa,aM];have S:=iL V.R;have l:=nu (c:=c) V.R.h8 V.R.w8;refine bk ?_
 (dsimp only[aR,aN,bY,aG,aU,aC,aE,aI,aT,dU,aH,br,aD,aF,Qa,aJ,aB,aA,aK,eB,gc,tgl,bC,d4,bD,bK,aS];refine⟨rfl,rfl,?_⟩)
 refine g.hc (nF e S N l G U .none λy W=> ?_);rw[W.no];dsimp only[aA,b6,tgl,bC,d4,bD,bK,aB,eE,cV,dA,bA,aH,aL,Qa,aM];refine bk ?_
 (dsimp only[aR,aN,bY,aG,aU,aC,aE,aI,aT,dU,aH,br,aD,aF,Qa,aJ,aB,aA,aK,eB,gc,tgl,bC,d4,bD,bK,aS];refine⟨rfl,rfl,?_⟩)
 refine g.hc (i5 e S N l G U .none λy W=> ?_);rw[W.no];dsimp only[aA,b6,tgl,bC,d4,bD,bK,aB,eE,cV,dA,bA,aH,aL,Qa,aM];refine bM ?_
 (dsimp only[bS,fsts,dtup,aC,aG,aV,aU,aE,aI,aW,aT,aP,flags,aD,aF,Qa,aA,aB,aK,dA,aS,bB,b6,tgl,bC,bL,bD,bK,cb,dl,bI];refine⟨rfl,?_⟩)
 refine g.hc<|jf e V.R ?_
 (dsimp only[aA,bj,br];refine⟨rfl,?_⟩)
 refine g.hc<|jf e V.R ?_
 (dsimp only[aA,bj,br,aH];refine⟨by decide,?_⟩)
 exact g.qr<|t p x T hx
theorem tN(e:Env1 C G1 mg mb){ps:List Pl}{R j:Nat->Int}{L:Pl->Int}(S:Sz ps h w)(N:NearX ps xs)(l:ps.length<=64)(F:Good ps h w R j (.tab L))(D:p∈ps)
  (q:Q (.tup [lowD ps h w p (endF ps R Jd p L),higD ps h w p (endF ps R Jc p L)]) Jc):aQ (aO C<|n+3) "Bounds.walls" [(dIn ps L xs,a),(dP p,A),(.int h,z),(.int w,V)] Q X:=by
 refine e.fn f_Bounds_walls (bu 47 rfl) rfl λv c P PX g=> ?_;dsimp only[f_Bounds_walls];dsimp only[aZ,ch,bt];have U:h+w<=16:=Kh S.h8 S.w8;refine dt rfl ?_
 (dsimp only[bY,aG,aU,aC,aE,aI,aT,dU,aH,br,aD,aF,Qa,aJ,aB,aA,aK,eB,gc,tgl,bC,d4,bD,bK,aS];refine⟨rfl,rfl,?_⟩)
 refine g.hc (nF e S N l F D .none λy W=> ?_);rw[W.no];dsimp only[aA,b6,tgl,bC,d4,bD,bK,aB,aH,bA,f6,aL,Qa,aM,bJ];generalize endF ps R Jd p L=x at q ⊢;obtain⟨s,o0⟩:=oJ (x:=x) (hi:=Jd) S D;have B:=s.len;have fin:∀d M u,d=lowD ps h w p x->dwss G1 v c (f_Bounds_walls.b.drop 3) (Nb "self" a (dIn ps L xs)<|Nb "place" A (dP p)<|Nb "many_rows" z (.int h)<|Nb "many_columns" V (.int w)<|No "counts" M<|No "came" u<|Nb "low" Jc d<|No "rows" Jb<|No "columns" Jb<|[]) P PX:=λd M u H=>by
  dsimp only[f_Bounds_walls,Yd];have Z:d.atom=Jd:=by
   rw[H];unfold lowD;exact vo (λo0=>rfl) λo0=>rfl
  rw[<-H] at q;clear H;refine dt rfl ?_
  (dsimp only[bY,aG,aU,aC,aE,aI,aT,dU,aH,br,aD,aF,Qa,aJ,aB,aA,aK,eB,gc,tgl,bC,d4,bD,bK,aS];refine⟨rfl,rfl,?_⟩)
  refine g.hc (i5 e S N l F D .none λy W=> ?_);rw[W.no];dsimp only[aA,b6,tgl,bC,d4,bD,bK,aB,aH,bA,f6,aL,Qa,aM,bJ];generalize endF ps R Jc p L=y at q ⊢;unfold higD at q;refine bk ?_;refine cF rfl ?_;dsimp only[fsts,aC,aG,aU,aE,aI,aT,aD,aF,Qa,aJ,aB,aA,aK,bv,br,iZ,iP];refine⟨rg S.h8,ib (λ(k:Nat)=> .int (k:Int)) (λk=> !decide (Nd.r k∈(cmG ps Jc p y).1)) (λi t=> ?_) ?_⟩
  ·dsimp only[bp,cA,b5,aM,Qa,aL,aB,aA,bJ];refine⟨λT Y=> ?_,λo0 K k=> ?_⟩
   ·dsimp only[tstD];dsimp only[aX,bw,g8,aD,aJ,Qa,aF,aB,aA,aK,bS,fsts,dtup,aC,aG,aV,aE,aI,aW,cf];refine gV ?_;refine⟨by decide,?_⟩;rw[ti,show keyD (.tup [.str "row",.int i])=Ja (Nd.key<|.r i) from rfl,oa,nK dB];exact Y
   ·dsimp only[elD];dsimp only[aD,aJ,Qa,aF,aB,aA,aK,bv];exact k
  dsimp only[bA,aH,aL,Qa,aM,aB,aA];refine bk ?_;refine cF rfl ?_;dsimp only[fsts,aC,aG,aU,aE,aI,aT,aD,aF,Qa,aJ,aB,aA,aK,bv,br,iZ,iP];refine⟨rg S.w8,ib (λ(k:Nat)=> .int (k:Int)) (λk=> !decide (Nd.c k∈(cmG ps Jc p y).1)) (λi t=> ?_) ?_⟩
  ·dsimp only[bp,cA,b5,aM,Qa,aL,aB,aA,bJ];refine⟨λT Y=> ?_,λo0 K k=> ?_⟩
   ·dsimp only[tstD];dsimp only[aX,bw,g8,aD,aJ,Qa,aF,aB,aA,aK,bS,fsts,dtup,aC,aG,aV,aE,aI,aW,cf];refine f9 ?_;refine⟨by decide,?_⟩;rw[ti,show keyD (.tup [.str "column",.int i])=Ja (Nd.key<|.c i) from rfl,oa,nK dB];exact Y
   ·dsimp only[elD];dsimp only[aD,aJ,Qa,aF,aB,aA,aK,bv];exact k
  dsimp only[bA,aH,aL,Qa,aM,aA,aB];refine cL ?_;dsimp only[dg,cH,aV,df,aW,b9,aL,Qa,aB,aA,aF,aK];rw[Z];dsimp only[aB];rw[xQ];dsimp only[aL,Qa,aA,aB,aF,aK,bL,aR,aD,dA];refine aY (c7 b8 (cY p) D) ?_
  (dsimp only[bv];refine⟨rfl,by decide,by decide,?_⟩)
  exact g.qr q
 refine bk ?_
 (dsimp only[bS,fsts,dtup,aC,aG,aV,aU,aE,aI,aW,aT,bH,dnew,br,aN,bA,aH,aL,Qa,aM,aB,aA];refine⟨by decide,by decide,by decide,?_⟩)
 refine cp ?_;dsimp only[aX,bw,aN,aR,aD,aF,Qa,aJ,aB,aA,aK];refine aY (c7 b8 (cY p) D) ?_;dsimp only[jU];refine cE (λE=> ?_) λE=> ?_
 ·refine bk ?_;dsimp only[bS,fsts,dtup,aC,aG,aV,aU,aE,aI,aW,aT,aP,flags,cf,aD,aF,Qa,aJ,aB,aA,aK,dA,aS,aR];refine aY (c7 b8 (cY p) D) ?_
  (dsimp only[bv,br];refine⟨rfl,?_⟩)
  refine gV ?_;dsimp only[aH,br,bB,cb,bI];refine g.hc<|kl (b:=Jc) (m:=h) e s.nd (by exact zle B U) (λy W r=>(kr<|s.val y W).1 r) ?_
  (dsimp only[aA,bj,br];refine⟨rfl,?_⟩)
  refine f9 ?_;dsimp only[aH,br,bB,cb,bI];refine g.hc<|kl (b:=Jd) (m:=w) e s.nd (by exact zle B U) (λy W r=>(kr<|s.val y W).2 r) ?_
  (dsimp only[aA,bj,br,bA,aH,aL,Qa,aM,aB];refine⟨by decide,?_⟩)
  refine fin _ _ _ ?_;unfold lowD;rw[Y4 E];rfl
 ·refine fin _ _ _ ?_;unfold lowD;rw[Y5 E];rfl
theorem lH(e:Env1 C G1 mg mb)(hi:1<=i)(k:Q .none Jc):aQ (aO C (n+2)) "need_number" [(.int i,b)] Q X:=by
 refine e.fn eL (bu 10 rfl) rfl λc u P PX g=> ?_;dsimp only[eL];dsimp only[aZ,ch,bt];refine cp ?_
 (dsimp only[cq,bw,aA,aX,ej,deq,aN,aD,aF,Qa,aK,cj,bW,aP,flags,aC,aG,aE,aI,bv,aH];refine⟨rfl,?_⟩)
 refine g.hc<|ig e ?_;dsimp only[bw];rw[Y4 (show i>=0 from QP (by decide) hi)]
 (dsimp only[cy,aB];refine⟨⟨rfl,rfl⟩,?_⟩)
 rw[Y5 (λq:i=0=>by rw[q] at hi;exact absurd hi<|by decide)];exact g.qn k
def gwF(ps:List Pl)(R:Nat->Int)(x:Pl->Int)(wd:Int)(p:Pl):Bool:=decide<|endF ps R Jc p x p-endF ps R Jd p x p<wd
theorem so(e:Env1 C G1 mg mb){ps:List Pl}{R u:Nat->Int}{x:Pl->Int}(S:Sz ps h w)(N:NearX ps xs)(l:ps.length<=64)(F:Good ps h w R u (.tab x))(D:p∈ps){wd:Int}
  (k:Q (.bool<|gwF ps R x wd p) Jc):aQ (aO C<|n+3) "Bounds.is_given_away" [(dIn ps x xs,b),(dP p,V),(.int wd,r)] Q X:=by
 refine e.fn cx (bu 46 rfl) rfl λM j i PX g=> ?_;dsimp only[cx];dsimp only[aZ,ch,bt];have m:endF ps R Jd p x p<=x p:=hM (hi:=Jd) S D _ x F;have B:x p<=endF ps R Jc p x p:=hM (hi:=Jc) S D _ x F;unfold gwF at k;generalize f:endF ps R Jc p x=H at k B;generalize K:endF ps R Jd p x=L at k m;refine bk ?_;dsimp only[aR,aD,aF,Qa,aJ,aB,aA,aK,ei];refine aY (pH _ _) ?_;dsimp only[dA];refine aY (c7 b8 (cY p) D) ?_;dsimp only[bv,bA,aH,aL,Qa,aM,aB,aA];refine bk ?_
 (dsimp only[aR,aD,aF,Qa,aJ,aB,aA,aK,aN,bY,aG,aU,aC,aE,aI,aT,bq,bv,dy,aH,br,eB,gc,tgl,bC,d4,bD,bK,aS];refine⟨rfl,rfl,?_⟩)
 refine g.hc (i5 e S N l F D (.some _) λy W=> ?_);rw[f] at W;dsimp only[aA,b6,tgl,bC,d4,bD,bK,aB,eE,cV,dA];refine aY (c7 b8 (cY p) D) ?_;dsimp only[bv,bA,aH,aL,Qa,aM,aA,aB];refine cp ?_;dsimp only[aX,bw,aD,aF,Qa,aB,aA,aK,bq,bv,gX,oL];have t:y p<=H p:=W.elim (λq=>q▸QZ _) λ⟨_,_,_,q⟩=>q;refine cE (λE=> ?_) λE=> ?_
 ·rw[Y5 (KG.mpr<|zgw1 E t m)] at k;refine bM ?_;dsimp only[cD,aH];exact g.qr k
 have P:y=H:=W.elim id λ⟨v,c,Z,_⟩=>absurd (sj c▸Z:x p+wd<=y p) λq=>E<|zgw2 q;subst P;refine ct ?_;refine bM ?_
 (dsimp only[aX,aH,aD,aF,Qa,aB,aA,aK,bq,aR,aN,bY,aG,aU,aC,aE,aI,aT,bv,gX,br,eB,gc,tgl,bC,d4,bD,bK,aS];refine⟨rfl,rfl,?_⟩)
 refine g.hc (nF e S N l F D (.some _) λz T=> ?_);rw[K] at T;dsimp only[aA,b6,tgl,bC,d4,bD,bK,aB,eE,cV,dA];refine aY (c7 b8 (cY p) D) ?_;dsimp only[gX,qS]
 rcases T with rfl|⟨v,c,Z,o⟩
 ·exact g.qr k
 ·have Z:z p<=y p-wd:=sj c▸Z;have o:L p<=z p:=o;rw[Y5 (KG.mpr<|zgw3 Z o)] at k;rw[Y5 (KG.mpr<|zgw4 Z)];exact g.qr k
end
theorem i6{f g:Pl->Bool}{x:Pl->Int}:∀ {ps:List Pl},(∀p∈ps,0<=x p)->(∀p∈ps,f p=Jc->g p=Jc\/x p=0)->sumOn f ps x<=sumOn g ps x
 |[]=>λo0 o0=>QZ _
 |q::ps=>λi h=>by
  rw[cZ,cZ];refine Int.add_le_add ?_ (i6 (λp D=>i p<|.tail _ D) λp D=>h p<|.tail _ D);have M:=i q<|.head _;have U:=h q<|.head _
  induction j:f q with
  |false=>
   induction g q with
   |false=>exact QZ _
   |true=>exact M
  |true=>
   rcases U j with z|z
   ·rw[z];exact QZ _
   ·rw[z]
    induction g q with
    |false=>exact QZ _
    |true=>exact QZ _
section
variable{ps:List Pl}{h w:Nat}{R C:Nat->Int}{x y:Pl->Int}{hi:Bool}{p:Pl}
theorem tG(S:Sz ps h w)(F:Good ps h w R C (.tab y))(pa pb:Nat->Bool):(((Qc h).filter pa).map R).sum-(((Qc w).filter pb).map C).sum=sumOn (λq=>pa q.1) ps y-sumOn (λq=>pb q.2) ps y:=by
 have T:(((Qc h).filter pa).map R).sum=sumOn (λq=>decide<|q.1∈(Qc h).filter pa) ps y:=by
  rw[<-du (f:=(·.1)) (Km.filter _)];exact Ub Wo<|Qj λi hi=>(F.2.1 i<|Qi.mp (Qm.mp hi).1).symm
 have e:(((Qc w).filter pb).map C).sum=sumOn (λq=>decide<|q.2∈(Qc w).filter pb) ps y:=by
  rw[<-du (f:=(·.2)) (Km.filter _)];exact Ub Wo<|Qj λi hi=>(F.2.2 i<|Qi.mp (Qm.mp hi).1).symm
 rw[T,e]
 congr 1
 ·refine hX λq o=> .inl ?_;rw[KM,Ua,Qm,Qi];exact⟨λz=>z.2,λz=>⟨(S.mem q o).1,z⟩⟩
 ·refine hX λq o=> .inl ?_;rw[KM,Ua,Qm,Qi];exact⟨λz=>z.2,λz=>⟨(S.mem q o).2,z⟩⟩
theorem zc1{a b x:Int}(h:a+ -x<=b+0):a-b<=x:=Int.sub_left_le_of_le_add<|Int.le_add_of_sub_right_le (by rw[Ka,<-Ks] at h;exact h)
theorem zc2{a b x:Int}(h:b+0<=a+ -x):x<=a-b:=Int.le_sub_left_of_add_le<|by rw[Ka,<-Ks] at h;exact Int.add_le_of_le_sub_right h
theorem tu(S:Sz ps h w)(F:Good ps h w R C (.tab y))(D:p∈ps){pa pb:Nat->Bool}(N:pa p.1=Jc)(Y:pb p.2=Jd):
  ((∀q∈ps,q≠p->pa q.1=Jc->pb q.2=Jc)->(((Qc h).filter pa).map R).sum-(((Qc w).filter pb).map C).sum<=y p)/\((∀q∈ps,q≠p->pb q.2=Jc->pa q.1=Jc)->y p<=(((Qc h).filter pa).map R).sum-(((Qc w).filter pb).map C).sum):=by
 rw[tG S F pa pb];have P:=gu (f:=λq=>pa q.1) (x:=y) (p:=p) (δ:= -y p) S.nd D;have k:=gu (f:=λq=>pb q.2) (x:=y) (p:=p) (δ:= -y p) S.nd D;rw[N,Y8 rfl] at P;rw[Y,Y7 QF] at k;have u:upd y p (y p+ -y p) p=0:=(bU _ _ _).trans (Int.add_right_neg _);have n:∀q∈ps,0<=upd y p (y p+ -y p) q:=λq o=>by
  by_cases e:q=p
  ·rw[e,u];exact QZ _
  ·rw[cm _ _ e];exact F.1 q o
 refine⟨λc=> ?_,λc=> ?_⟩
 ·have z:=i6 n (f:=λq=>pa q.1) (g:=λq=>pb q.2) λq o j=>by
   by_cases e:q=p
   ·exact .inr<|e▸u
   ·exact .inl<|c q o e j
  rw[P,k] at z;exact zc1 z
 ·have z:=i6 n (f:=λq=>pb q.2) (g:=λq=>pa q.1) λq o j=>by
   by_cases e:q=p
   ·exact .inr<|e▸u
   ·exact .inl<|c q o e j
  rw[P,k] at z;exact zc2 z
theorem xF{q:Prop}[Decidable q](h:q):(!decide q)=Jd:=by rw[Y4 h];rfl
theorem xH{q:Prop}[Decidable q](h:¬q):(!decide q)=Jc:=by rw[Y5 h];rfl
theorem my(S:Sz ps h w)(F:Good ps h w R C (.tab x))(D:p∈ps)(E:¬ (glG hi p∈(cmG ps hi p x).1/\(hi=Jd->x p≠0)))(H:Good ps h w R C (.tab y)):leG hi (y p) (x p):=by
 obtain⟨b,c⟩:=zJ (hi:=hi) S F D
 induction hi with
 |false=>
  show x p<=y p;by_cases i:x p>0
  ·have O:Nd.c p.2∉(cmG ps Jd p x).1:=λq=>E ⟨q,λo0 z=>by rw[z] at i;exact absurd i<|Int.lt_irrefl 0⟩;have T:=Y4 (p:=Nd.r p.1∈(cmG ps Jd p x).1) b;have e:=Y5 (p:=Nd.c p.2∈(cmG ps Jd p x).1) O;rw[ue S F D (pa:=λk=>decide<|Nd.r k∈(cmG ps Jd p x).1) (pb:=λk=>decide<|Nd.c k∈(cmG ps Jd p x).1) (λq o n=>(c q o n).2) T e];exact(tu S H D T e).1 λq o n z=>Y4<|(c q o n).1 (Y6 z)
  ·exact QP (KG.mp i)<|H.1 p D
 |true=>
  show y p<=x p;have O:Nd.r p.1∉(cmG ps Jc p x).1:=λq=>E ⟨q,λz=>tf z⟩;have T:=xH (q:=Nd.r p.1∈(cmG ps Jc p x).1) O;have e:=xF (q:=Nd.c p.2∈(cmG ps Jc p x).1) b;rw[ue S F D (pa:=λk=> !decide (Nd.r k∈(cmG ps Jc p x).1)) (pb:=λk=> !decide (Nd.c k∈(cmG ps Jc p x).1)) (λq o n=>(c q o n).2.imp (λz=>Ub (!·) z) id) T e];refine(tu S H D T e).2 λq o n z=>xH λy=> ?_;rw[xF ((c q o n).1 y)] at z;exact ft z
theorem uo(S:Sz ps h w){pa pb:Nat->Bool}(N:Good ps h w R C (.no pa pb))(F:Good ps h w R C (.tab y)):False:=by
 have z:=N.2;rw[tG S F pa pb] at z;exact absurd (Int.lt_of_sub_pos z)<|KG.mpr (i6 F.1 λq o f=> .inl (N.1 q o f))
end
def cT(t:List (List Int))(h w:Nat)(g:Pl->Bool):List (List (Option Int)):=cellsF t (λa b=>g (a,b)) h w
def PS(h w:Nat)(g:Pl->Bool):List Pl:=(allF h w).filter g
def xT(t:List (List Int))(p:Pl):Int:=cell t p.1 p.2
theorem xG{g:Pl->Bool}(T:a<h)(R:b<w):cO (cT t h w g) a b=cellO t (λa b=>g (a,b)) a b:=by
 rw[cO,cT,cellsF,hY _ T,gv _ R]
theorem qQ{g:Pl->Bool}(T:a<h)(R:b<w):(!(cO (cT t h w g) a b).isSome)=g (a,b):=by
 rw[xG T R];show(!(cond (g (a,b)) Jb<|Ja (cell t a b)).isSome)=g (a,b);cases g (a,b)<;>rfl
theorem oE(t:List (List Int))(h w:Nat)(g:Pl->Bool):psF (cT t h w g) h w=PS h w g:=
 WG λp D=>qQ (allF_mem.mp D).1 (allF_mem.mp D).2
theorem PS_mem{g:Pl->Bool}{p:Pl}:p∈PS h w g↔(p.1<h/\p.2<w)/\g p=Jc:=by rw[PS,Qm,allF_mem]
section
variable{t:List (List Int)}{h w:Nat}{g g':Pl->Bool}
theorem Bc{x:Pl->Int}(T:a<h)(R:b<w):hx (cT t h w g) x a b=cond (g (a,b)) (x (a,b)) 0:=by
 rw[hx,qQ T R];cases g (a,b)<;>rfl
theorem vokT(R:Rect t h w)(N:NN t)(g:Pl->Bool):VOK (cT t h w g) (rsF t) (csF t w) h w:=vok R N _
abbrev RT(t:List (List Int))(h w:Nat)(g:Pl->Bool):Nat->Int:=r1F (cT t h w g)<|rsF t
abbrev CT(t:List (List Int))(h w:Nat)(g:Pl->Bool):Nat->Int:=r2F (cT t h w g)<|csF t w
theorem rowT(x:Pl->Int)(T:a<h):rowS (PS h w g) x a=((Qc w).map λb=>cond (g (a,b)) (x (a,b)) 0).sum:=by
 rw[<-oE [],qu T];exact Ub Wo<|Qj λb R=>Bc T<|Qi.mp R
theorem colT(x:Pl->Int)(R:b<w):colS (PS h w g) x b=((Qc h).map λa=>cond (g (a,b)) (x (a,b)) 0).sum:=by
 rw[<-oE [],qT R];exact Ub Wo<|Qj λa T=>Bc (Qi.mp T) R
theorem xR(R:Rect t h w)(N:NN t){p:Pl}(D:p.1<h/\p.2<w):0<=xT t p:=(jy R).mp N p.1 p.2 D.1 D.2
theorem goodT(R:Rect t h w)(N:NN t)(g:Pl->Bool):Good (PS h w g) h w (RT t h w g) (CT t h w g) (.tab (xT t)):=
 ⟨λp D=>xR R N (PS_mem.mp D).1,λi V=>(rowT _ V).trans (uN R (λa b=>g (a,b)) V).symm,λj H=>(colT _ H).trans (s9 R (λa b=>g (a,b)) H).symm⟩
theorem szT(R:Rect t h w)(g:Pl->Bool):Sz (PS h w g) h w:=by
 rw[<-oE t];exact iL<|Rect.range _ R.h1 R.h8 R.w1 R.w8
def mixT(t:List (List Int))(g':Pl->Bool)(y:Pl->Int)(p:Pl):Int:=cond (g' p) (y p)<|xT t p
theorem AC(s:∀p,g' p=Jc->g p=Jc)(y:Pl->Int)(p:Pl):cond (g p) (mixT t g' y p) 0=cond (g' p) (y p) 0+(cond (g p) (xT t p) 0-cond (g' p) (xT t p) 0):=by
 unfold mixT;cases A:g' p with
 |true=>rw[s p A];show y p=y p+(xT t p-xT t p);rw[Yx,Ka]
 |false=>
  cases g p with
  |true=>show xT t p=0+(xT t p-0);rw[WJ,Wi]
  |false=>rfl
theorem x8{f:Nat->Pl}(s:∀p,g' p=Jc->g p=Jc){y:Pl->Int}(e:((Qc n).map λb=>cond (g' (f b)) (y (f b)) 0).sum=((Qc n).map λb=>cond (g' (f b)) (xT t (f b)) 0).sum):
  ((Qc n).map λb=>cond (g<|f b) (mixT t g' y<|f b) 0).sum=((Qc n).map λb=>cond (g<|f b) (xT t<|f b) 0).sum:=by
 rw[show((Qc n).map λb=>cond (g<|f b) (mixT t g' y<|f b) 0)=(Qc n).map λb=>cond (g'<|f b) (y<|f b) 0+(cond (g<|f b) (xT t<|f b) 0-cond (g'<|f b) (xT t<|f b) 0) from Qj λb o0=>AC s y (f b)];rw[<-iz,<-nE,e,KO,WX]
theorem goodM(R:Rect t h w)(N:NN t)(s:∀p,g' p=Jc->g p=Jc){y:Pl->Int}(F:Good (PS h w g') h w (RT t h w g') (CT t h w g') (.tab y)):Good (PS h w g) h w (RT t h w g) (CT t h w g) (.tab (mixT t g' y)):=by
 obtain⟨L,m,G⟩:=F;obtain⟨o0,k,B⟩:=goodT R N g;obtain⟨o0,E,J⟩:=goodT R N g';refine⟨λp D=> ?_,λi V=> ?_,λj H=> ?_⟩
 ·obtain⟨q,Z⟩:=PS_mem.mp D;unfold mixT;cases A:g' p with
  |true=>exact L p<|PS_mem.mpr ⟨q,A⟩
  |false=>exact xR R N q
 ·have e:=(m i V).trans (E i V).symm;rw[rowT _ V,rowT _ V] at e;rw[<-k i V,rowT _ V,rowT _ V];exact x8 (f:=λb=>(i,b)) s e
 ·have e:=(G j H).trans (J j H).symm;rw[colT _ H,colT _ H] at e;rw[<-B j H,colT _ H,colT _ H];exact x8 (f:=λa=>(a,j)) s e
abbrev enT(t:List (List Int))(h w:Nat)(g:Pl->Bool)(hi:Bool)(p:Pl):Pl->Int:=endF (PS h w g) (RT t h w g) hi p<|xT t
theorem ry(R:Rect t h w)(N:NN t)(D:p∈PS h w g)(hi:Bool):Good (PS h w g) h w (RT t h w g) (CT t h w g) (.tab (enT t h w g hi p))/\¬ (glG hi p∈(cmG (PS h w g) hi p (enT t h w g hi p)).1/\(hi=Jd->enT t h w g hi p p≠0)):=
 ml (szT R g) D _ _ (goodT R N g) (QI _)
def gvT(t:List (List Int))(h w:Nat)(wd:Int)(g:Pl->Bool)(p:Pl):Bool:=gwF (PS h w g) (RT t h w g) (xT t) wd p
theorem xE(R:Rect t h w)(N:NN t)(s:∀p,g' p=Jc->g p=Jc)(D:p∈PS h w g')(hi:Bool):leG hi (enT t h w g' hi p p) (enT t h w g hi p p):=by
 obtain⟨c,q⟩:=PS_mem.mp D;have Q:p∈PS h w g:=PS_mem.mpr ⟨c,s p q⟩;have z:=my (szT R g) (ry R N Q hi).1 Q (ry R N Q hi).2 (goodM R N s (ry R N D hi).1);rw[show mixT t g' (enT t h w g' hi p) p=enT t h w g' hi p p from by unfold mixT;rw[q];rfl] at z;exact z
theorem vz(R:Rect t h w)(N:NN t){wd:Int}(s:∀p,g' p=Jc->g p=Jc)(D:p∈PS h w g')(e:gvT t h w wd g p=Jc):gvT t h w wd g' p=Jc:=by
 have a:enT t h w g' Jc p p<=enT t h w g Jc p p:=xE R N s D Jc;have b:enT t h w g Jd p p<=enT t h w g' Jd p p:=xE R N s D Jd;exact Y4<|Int.lt_of_le_of_lt (Int.sub_le_sub a b) (Y6 e)
end
def smT(t:List (List Int))(bd:Int)(p:Pl):Bool:=decide (1<=xT t p)&&decide (xT t p<=bd)
noncomputable def rmv(g:Pl->Bool)(q:Pl)(p:Pl):Bool:=g p&& !decide (p=q)
theorem gY{g:Pl->Bool}(h:rmv g q p=Jc):g p=Jc/\p≠q:=by
 obtain⟨a,b⟩:=Qh.mp h;exact⟨a,λe=>by rw[Y4 e] at b;exact ft b⟩
theorem km{g:Pl->Bool}(h:g p=Jc)(n:p≠q):rmv g q p=Jc:=by rw[rmv,h,Y5 n];rfl
theorem pM(h w:Nat)(g:Pl->Bool)(q:Pl):PS h w (rmv g q)=(PS h w g).filter λp=> !decide (p=q):=by
 rw[PS,PS,Wl];exact WG λp o0=>Bool.and_comm _ _
section
variable(t:List (List Int))(h w:Nat)(wd bd:Int)
def gone(g:Pl->Bool):Option Pl:=(PS h w g).find? (gvT t h w wd g)
noncomputable def peelT:Nat->(Pl->Bool)->Option (Pl->Bool)×List ((Pl->Bool)×Pl)
 |0,g=>(Jb,[])
 |k+1,g=>match gone t h w wd g with
  |none=>(Ja g,[])
  |some q=>cond (smT t bd q) (Jb,[(g,q)]) ((peelT k<|rmv g q).1,(g,q)::(peelT k<|rmv g q).2)
inductive Road:(Pl->Bool)->List ((Pl->Bool)×Pl)->Option (Pl->Bool)->Prop
 |stop {g:Pl->Bool} (s:∀p∈PS h w g,gvT t h w wd g p=Jd):Road g [] (Ja g)
 |hit {g:Pl->Bool} {q:Pl} (m:q∈PS h w g) (v:gvT t h w wd g q=Jc) (s:smT t bd q=Jc):Road g [(g,q)] Option.none
 |go {g:Pl->Bool} {q:Pl} {l:List ((Pl->Bool)×Pl)} {r:Option (Pl->Bool)} (m:q∈PS h w g) (v:gvT t h w wd g q=Jc) (s:smT t bd q=Jd) (n:Road (rmv g q) l r):Road g ((g,q)::l) r
end
section
variable{t:List (List Int)}{h w:Nat}{wd bd:Int}
theorem lW{g:Pl->Bool}(e:gone t h w wd g=Jb):peelT t h w wd bd (k+1) g=(Ja g,[]):=by rw[peelT,e]
theorem n0{g:Pl->Bool}(e:gone t h w wd g=Ja q)(s:smT t bd q=Jc):peelT t h w wd bd (k+1) g=(Jb,[(g,q)]):=by rw[peelT,e];dsimp only;rw[s];rfl
theorem rD{g:Pl->Bool}(e:gone t h w wd g=Ja q)(s:smT t bd q=Jd):peelT t h w wd bd (k+1) g=((peelT t h w wd bd k (rmv g q)).1,(g,q)::(peelT t h w wd bd k (rmv g q)).2):=by rw[peelT,e];dsimp only;rw[s];rfl
theorem nV{g:Pl->Bool}(e:gone t h w wd g=Ja q):q∈PS h w g/\gvT t h w wd g q=Jc:=⟨Wr e,Yw e⟩
theorem rq{g:Pl->Bool}(m:q∈PS h w g):(PS h w (rmv g q)).length<(PS h w g).length:=by
 rw[pM];refine List.length_filter_lt_length_iff_exists.mpr ⟨q,m,?_⟩;rw[Y4 rfl];exact QF
theorem lS:∀ (k:Nat) (g:Pl->Bool),(PS h w g).length<k->Road t h w wd bd g (peelT t h w wd bd k g).2 (peelT t h w wd bd k g).1
 |0=>λg M=>absurd M<|Wf _
 |k+1=>λg M=>by
  induction e:gone t h w wd g with
  |none=>rw[lW e];exact .stop λp D=>Yi.mpr<|List.find?_eq_none.mp e p D
  |some q=>
   obtain⟨m,v⟩:=nV e
   induction s:smT t bd q with
   |true=>rw[n0 e s];exact .hit m v s
   |false=>rw[rD e s];exact .go m v s<|lS k (rmv g q) (QK (rq m)<|Wg M)
def Safe(t:List (List Int))(h w:Nat)(wd:Int)(g:Pl->Bool):Prop:=∀p∈PS h w g,gvT t h w wd g p=Jd
theorem Road.fin{g S:Pl->Bool}{l:List ((Pl->Bool)×Pl)}{r:Option (Pl->Bool)}(x:Road t h w wd bd g l r):r=Ja S->A3 (Safe t h w wd S) (∀p,S p=Jc->g p=Jc) (∀p,g p=Jc->smT t bd p=Jc->S p=Jc):=by
 induction x with
 |stop s=>intro e;obtain rfl:=sj e;exact⟨s,λo0 q=>q,λo0 q o0=>q⟩
 |hit m v s=>intro e;exact ns e
 |go m v s n i=>
  intro e;obtain⟨a,b,c⟩:=i e;exact⟨a,λp q=>(gY<|b p q).1,λp q z=>c p (km q λy=>by rw[y,s] at z;exact ft z) z⟩
theorem Road.max(R:Rect t h w)(N:NN t){g T:Pl->Bool}{l:List ((Pl->Bool)×Pl)}{r:Option (Pl->Bool)}(x:Road t h w wd bd g l r)(Y:Safe t h w wd T):(∀p,T p=Jc->g p=Jc)->r=Jb->∃q∈PS h w g,smT t bd q=Jc/\T q=Jd:=by
 have o:∀ {g:Pl->Bool} {q:Pl},(∀p,T p=Jc->g p=Jc)->q∈PS h w g->gvT t h w wd g q=Jc->T q=Jd:=λ{g q} E m v=>Yi.mpr λz=>by
  have a:q∈PS h w T:=PS_mem.mpr ⟨(PS_mem.mp m).1,z⟩;exact ft<|(Y q a).symm.trans (vz R N E a v)
 induction x with
 |stop s=>intro _ e;exact sn e
 |hit m v s=>exact λE o0=>⟨_,m,s,o E m v⟩
 |go m v s n i=>
  intro E e;have z:=o E m v;obtain⟨B,a,G,A⟩:=i (λp D=>km (E p D) λy=>by rw[y,z] at D;exact ft D) e;exact⟨B,PS_mem.mpr ⟨(PS_mem.mp a).1,(gY (PS_mem.mp a).2).1⟩,G,A⟩
structure Full(t:List (List Int))(h w:Nat)(wd bd:Int)(g:Pl->Bool):Prop where
 safe:Safe t h w wd g
 all:∀p,p.1<h/\p.2<w->smT t bd p=Jc->g p=Jc
theorem nb(h w:Nat)(y:h<=8)(T:w<=8)(g:Pl->Bool):(PS h w g).length<65:=by
 have:(allF h w).length<=64:=by rw[jb];exact Yc y T
 exact Nat.lt_succ_of_le<|Qv (Wm _ _) this
abbrev peel(t:List (List Int))(h w:Nat)(wd bd:Int)(g:Pl->Bool):Option (Pl->Bool)×List ((Pl->Bool)×Pl):=peelT t h w wd bd 65 g
theorem jZ(R:Rect t h w)(g:Pl->Bool):Road t h w wd bd g (peel t h w wd bd g).2 (peel t h w wd bd g).1:=lS 65 g<|nb h w R.h8 R.w8 g
theorem r7(R:Rect t h w)(N:NN t){g X:Pl->Bool}{p:Pl}(E:smT t bd p=Jd)(u:∀q,X q=Jc->g q=Jc)(T:∀p,p.1<h/\p.2<w->smT t bd p=Jc->X p=Jc)(e:(peel t h w wd bd (rmv g p)).1=Jb):(peel t h w wd bd (rmv X p)).1=Jb:=by
 induction z:(peel t h w wd bd<|rmv X p).1 with
 |none=>rfl
 |some S=>
  obtain⟨a,b,c⟩:=(jZ R<|rmv X p).fin z;obtain⟨q,m,s,y⟩:=(jZ (wd:=wd) (bd:=bd) R<|rmv g p).max R N a (λq o=>km (u q (gY<|b q o).1) (gY<|b q o).2) e;have:S q=Jc:=c q (km (T q (PS_mem.mp m).1 s) (gY (PS_mem.mp m).2).2) s;rw[this] at y;exact tf y
noncomputable def fewO(g:Pl->Bool):Option (Pl->Bool)->Pl->Bool
 |some S=>S
 |none=>g
def few1(t:List (List Int))(h w:Nat)(wd bd:Int)(g:Pl->Bool)(p:Pl):Pl->Bool:=cond (g p&& !smT t bd p) (fewO g (peel t h w wd bd<|rmv g p).1) g
theorem wK(R:Rect t h w)(N:NN t){g:Pl->Bool}(F:Full t h w wd bd g)(p:Pl):A3 (Full t h w wd bd (few1 t h w wd bd g p)) (∀q,few1 t h w wd bd g p q=Jc->g q=Jc) (few1 t h w wd bd g p p=Jc->smT t bd p=Jd->(peel t h w wd bd (rmv g p)).1=Jb):=by
 unfold few1
 induction e:(g p&& !smT t bd p) with
 |false=>exact⟨F,λo0 q=>q,λq s=>by rw[show g p=Jc from q,s] at e;exact tf e⟩
 |true=>
  obtain⟨T,m⟩:=Qh.mp e;have s:smT t bd p=Jd:=(QS _).mp m
  induction z:(peel t h w wd bd<|rmv g p).1 with
  |none=>exact⟨F,λo0 q=>q,λo0 o0=>rfl⟩
  |some S=>
   obtain⟨a,b,c⟩:=(jZ R<|rmv g p).fin z;refine⟨⟨a,λq o E=>c q (km (F.all q o E) λy=>by rw[y,s] at E;exact ft E) E⟩,λq o=>(gY<|b q o).1,λq o0=>absurd rfl (gY<|b p q).2⟩
theorem tU(R:Rect t h w)(N:NN t):∀ (L:List Pl) (g:Pl->Bool),Full t h w wd bd g->A3 (Full t h w wd bd (L.foldl (few1 t h w wd bd) g)) (∀q,L.foldl (few1 t h w wd bd) g q=Jc->g q=Jc) (∀p∈L,L.foldl (few1 t h w wd bd) g p=Jc->smT t bd p=Jd->(peel t h w wd bd (rmv (L.foldl (few1 t h w wd bd) g) p)).1=Jb)
 |[]=>λg F=>⟨F,λo0 q=>q,λp D=>(bQ D)⟩
 |p::L=>λg F=>by
  obtain⟨a,b,c⟩:=wK R N F p;obtain⟨Y,G,Q⟩:=tU R N L _ a;refine⟨Y,λq o=>b q<|G q o,λq o e s=> ?_⟩
  rcases Qt.mp o with rfl|o
  ·exact r7 R N s (λy W=>b y<|G y W) Y.all<|c (G _ e) s
  ·exact Q q o e s
end
theorem t8(t:List (List Int)):dT t=dC (t.map λr=>r.map Ja):=by
 show D.list _=D.list (Kt _<|Kt _ _);rw[QE];refine Ub D.list (Qj λr o0=> ?_);show D.list _=D.list (Kt _<|Kt _ _);rw[QE];rfl
theorem Rect.some{t:List (List Int)}(R:Rect t h w):Rect (t.map λr=>r.map Ja) h w:=
 ⟨by rw[Qd];exact R.len,λr T=>by obtain⟨q,o,rfl⟩:=Ql.mp T;rw[Qd];exact R.row q o,R.h1,R.h8,R.w1,R.w8⟩
theorem vQ{t:List (List Int)}(R:Rect t h w)(T:a<h)(v:b<w):cO (t.map λr=>r.map Ja) a b=Ja (cell t a b):=by
 have e:rowAt (t.map λr=>r.map Ja) a=(rowAt t a).map Ja:=by rw[rowAt,Qu,(R.at_ T).1];rfl
 rw[cO,e,Qu,cell];rw[Qg (by rw[(R.at_ T).2];exact v)];rfl
def hdF(c:List (List (Option Int)))(ps:List Pl):List (List (Option Int)):=ps.foldl (λt p=>setG t p.1 p.2 Jb) c
theorem te:∀ {ps:List Pl} {c:List (List (Option Int))},Rect c h w->(∀p∈ps,p.1<h/\p.2<w)->Rect (hdF c ps) h w/\∀a b,cO (hdF c ps) a b=if(a,b)∈ps then Jb else cO c a b
 |[]=>λR o0=>⟨R,λa b=>rfl⟩
 |p::ps=>λR D=>by
  obtain⟨o,r⟩:=D p<|.head _;obtain⟨N,Y⟩:=te (ps:=ps) (R.setG (j:=p.2) (v:=Jb) o) λq m=>D q<|.tail _ m;refine⟨N,λa b=>(Y a b).trans ?_⟩;rw[sL R o r];by_cases q:(a,b)∈ps
  ·rw[Y8 q,Y8 (.tail _ q)]
  ·rw[Y7 q];by_cases z:(a,b)=p
   ·rw[Y8 z,Y8 (z▸ .head _)]
   ·rw[Y7 z,Y7 λy=>(Qt.mp y).elim z q]
theorem BR{t:List (List Int)}(R:Rect t h w)(g:Pl->Bool):hdF (t.map λr=>r.map Ja) (PS h w g)=cT t h w g:=by
 obtain⟨N,Y⟩:=te R.some (ps:=PS h w g) λp D=>(PS_mem.mp D).1;rw[qv N];refine Qj λa T=>Qj λb v=> ?_;have T:=Qi.mp T;have v:=Qi.mp v;rw[Y,vQ R T v];show _=cond (g (a,b)) Jb (Ja<|cell t a b)
 induction q:g (a,b) with
 |true=>rw[Y8 (PS_mem.mpr ⟨⟨T,v⟩,q⟩)];rfl
 |false=>rw[Y7 λz=>by rw[(PS_mem.mp z).2] at q;exact tf q];rfl
section
variable{C:Cx}{mg mb:Jq->Option Jf}{n:Nat}{Q:D->Bool->Prop}{X:DX}
theorem wm(e:Env1 C G1 mg mb)(R:Rect t h w)(k:Q (.bool Jc) Jc):aQ (aO C (n+1)) "is_grid" [(dT t,b)] Q X:=by
 rw[t8];exact rj e R.some k
theorem t7(e:Env1 C G1 mg mb){r:List Int}(k:Q (.bool (r.all λi=>decide (i>=0))) Jc):aQ (aO C (n+2)) "are_counts" [(dI r,b)] Q X:=by
 refine e.fn fg (bu 7 rfl) rfl λc u P PX g=> ?_;dsimp only[fg];dsimp only[aZ,ch,bt];refine bM ?_
 (dsimp only[bl,hJ,aH,aC,aE,ca];refine⟨rfl,?_⟩)
 refine bV rfl ?_;dsimp only[fsts,dW,aC,aG,aU,aE,aI,aT,ck,aD,aF,Qa,aA,aK,bj,bB,cw];refine bE D.int (λi=> .bool (decide<|i>=0)) (λi h K k=> ?_) ?_
 ·dsimp only[bp,cA,b5,aM,Qa,aL,aB,aA,bJ];dsimp only[elD]
  (dsimp only[aP,flags,aC,aG,aU,aE,aI,aT,aD,aJ,Qa,aF,aB,aA,aK,bv,aH,br,bB];refine⟨rfl,?_⟩)
  exact g.hc<|ig e k
 ·refine jt (c4 _ _) ?_;rw[iX];exact g.qr k
theorem wa(e:Env1 C G1 mg mb)(R:Rect t h w)(N:NN t)(k:Q (.bool Jc) Jc):aQ (aO C (n+3)) "is_table" [(dT t,b)] Q X:=by
 refine e.fn gT (bu 8 rfl) rfl λl c P PX g=> ?_;dsimp only[gT];dsimp only[aZ,ch,bt];refine bM ?_
 (dsimp only[c6,bl,hJ,aH,aC,aE,ca,aP,flags,aG,aI,aD,aF,Qa,aA,aK,bj,aS];refine⟨rfl,?_⟩)
 refine g.hc<|wm e R ?_
 (dsimp only[bw,aA];refine⟨rfl,?_⟩)
 refine bV rfl ?_;dsimp only[fsts,dW,aC,aG,aU,aE,aI,aT,ck,aD,aF,Qa,aA,aK,bj,bB,cw];refine bE dI (λr=> .bool (r.all λi=>decide<|i>=0)) (λr T K k=> ?_) ?_
 ·dsimp only[bp,cA,b5,aM,Qa,aL,aB,aA,bJ];dsimp only[elD]
  (dsimp only[aP,flags,aC,aG,aU,aE,aI,aT,aD,aJ,Qa,aF,aB,aA,aK,bj,aS,bB,cb,bI];refine⟨rfl,?_⟩)
  exact g.hc<|t7 e k
 ·refine jt (c4 _ _) ?_;rw[iX,Qx.mpr λr T=>Qx.mpr λi V=>Y4 (N r T i V)];exact g.qr k
theorem zT(e:Env1 C G1 mg mb)(R:Rect t h w)(N:NN t)(k:Q .none Jc):aQ (aO C (n+4)) "need_table" [(dT t,b)] Q X:=by
 refine e.fn fb (bu 9 rfl) rfl λc u P PX g=> ?_;dsimp only[fb];dsimp only[aZ,ch,bt];refine cp ?_
 (dsimp only[bW,bw,aP,flags,aC,aG,aE,aI,aD,aF,Qa,aA,aK,bj,aS];refine⟨rfl,?_⟩)
 refine g.hc<|wa e R N ?_;dsimp only[bw,cy,aB];exact g.qn k
theorem yf(e:Env1 C G1 mg mb)(R:Rect t h w)(k:Q (.tup [dI (rsF t),dI (csF t w)]) Jc):aQ (aO C (n+1)) "sums_of" [(dT t,b)] Q X:=by
 refine e.fn iB (bu 11 rfl) rfl λl u P PX g=> ?_;dsimp only[iB];dsimp only[aZ,ch,bt];have d:=R.w8;refine bk ?_;refine bV rfl ?_
 (dsimp only[fsts,aC,aG,aU,aE,aI,aT,bl,ce,br,iZ,iP,ca,aR,aN,aD,aF,Qa,aJ,aB,aA,aK];refine⟨rfl,?_⟩)
 refine aY (g6 R) ?_;dsimp only[cI,cN];rw[R.len0];refine⟨⟨by exact zim _,by exact zip' d⟩,ec (λ(c:Nat)=> .int ((t.map λr=>r[c]?.getD 0).sum)) (λc Z K k=> ?_) ?_⟩
 ·dsimp only[bp,cA,b5,aM,Qa,aL,aB,aA,bJ];dsimp only[elD]
  (dsimp only[bl,gz,aC,aE,ca];refine⟨rfl,?_⟩)
  refine bV rfl ?_;dsimp only[fsts,dW,aC,aG,aU,aE,aI,aT,ck,aD,aJ,Qa,aF,aB,aA,aK,bj,bB,cw];refine bE dI (λr=> .int (r[c]?.getD 0)) (λr T K k=> ?_) ?_
  ·dsimp only[bp,cA,b5,aM,Qa,aL,aB,aA,bJ];dsimp only[elD];dsimp only[aR,aD,aJ,Qa,aF,aB,aA,aK,bj];refine aY (ky<|by rw[R.row r T];exact Z) ?_;exact k
  ·refine g7 (fx _ _) ?_;exact k
 ·dsimp only[bA,aH,aL,Qa,aM,aA,aB];refine cL ?_;dsimp only[dg,cH,aV,df,aW,b9,lg,aL,Qa,aA,aB,aF,aK,bL];refine bV rfl ?_;dsimp only[fsts,aC,aG,aU,aE,aI,aT,ck,aD,aF,Qa,aB,aA,aK,bj,bB,cw];refine bE dI (λr=> .int r.sum) (λr T K k=> ?_) ?_
  ·dsimp only[bp,cA,b5,aM,Qa,aL,aB,aA,bJ];dsimp only[elD]
   (dsimp only[bl,gz,aC,aE,ca,aD,aJ,Qa,aF,aB,aA,aK,dW];refine⟨rfl,?_⟩)
   refine g7 (fB _) ?_;exact k
  ·refine⟨rfl,by decide,?_⟩;rw[rsF,csF,dI,dI,QE,QE] at k;exact g.qr k
theorem lD(e:Env1 C G1 mg mb)(R:Rect t h w)(k:Q (.list ((allF h w).map dP)) Jc):aQ (aO C (n+1)) "places_of" [(dT t,b)] Q X:=by
 rw[t8];exact kK e R.some k
theorem vu(e:Env1 C G1 mg mb)(R:Rect t h w){p:Pl}(D:p.1<h/\p.2<w){d b W:Bool}(k:Q (.bool (smT t bd p)) Jc):aQ (aO C (n+1)) "is_small" [(dT t,d),(dP p,b),(.int bd,W)] Q X:=by
 refine e.fn gR (bu 13 rfl) rfl λl c P PX g=> ?_;dsimp only[gR];dsimp only[aZ,ch,bt];refine bM ?_;dsimp only[jp,aH,aD,aF,Qa,aA,aB,aK,aR,aN];refine aY (mT p) ?_;refine aY (gL R D.1) ?_;refine aY (mJ p) ?_;refine aY (gy R D.1 D.2) ?_;dsimp only[lf];have k:Q (.bool<|decide (1<=cell t p.1 p.2)&&decide (cell t p.1 p.2<=bd)) Jc:=k;refine cE (λN=> ?_) λN=> ?_
 ·rw[Y4 N] at k;exact g.qr k
 ·rw[Y5 N] at k;exact g.qr k
theorem yq(e:Env1 C G1 mg mb)(R:Rect t h w)(g:Pl->Bool)(k:Q (.tup [dC (cT t h w g),dI (rsF t),dI (csF t w)]) Jd):aQ (aO C (n+2)) "seen" [(dT t,b),(.list ((PS h w g).map dP),G)] Q X:=by
 refine e.fn nq (bu 19 rfl) rfl λl f P PX z=> ?_;dsimp only[nq];dsimp only[aZ,ch,bt];rw[<-BR R g] at k;have U:∀p∈PS h w g,p.1<h/\p.2<w:=λp U=>(PS_mem.mp U).1;generalize PS h w g=s at U k ⊢;refine bk ?_;refine bV rfl ?_;dsimp only[fsts,aC,aG,aU,aE,aI,aT,ck,aD,aF,Qa,aJ,aB,aA,aK,bj,bB,cw];refine bE dI dI (λr E K k=> ?_) ?_
 ·dsimp only[bp,cA,b5,aM,Qa,aL,aB,aA,bJ];dsimp only[elD]
  (dsimp only[bl,ey,aC,aE,ca,aD,aJ,Qa,aF,aB,aA,aK,bj,pY,tgl];refine⟨rfl,?_⟩)
  rw[de _ k8];exact k
 dsimp only[bA,aH,aL,Qa,aM,aB,aA];refine dG rfl ?_;dsimp only[fsts,aC,aG,aU,aE,aI,aT,ck,aD,aF,Qa,aJ,aB,aA,aK,bj,bB,fM,fH,fG,fF,bL,bK,fK,gn,cP,fN,fJ,cw];rw[show D.list (t.map dI)=dC (t.map λr=>r.map Ja) from t8 t];refine cK dP (λi L=>∃u v F Z,L=(Nb "table" F (dT t)<|Nb "places" Z (.list<|s.map dP)<|Nb "cells" Jc (dC<|hdF (t.map λr=>r.map Ja) (s.take i))<|No "row" u<|No "column" v<|No "sums" Jb<|[])) _ _ ⟨_,_,_,_,rfl⟩ ?_ ?_
 ·rintro j p L H ⟨u,v,F,Z,rfl⟩ K m;obtain⟨T,o0⟩:=te (ps:=s.take j) R.some λq o=>U q<|Yu o;rw[show hdF (t.map λr=>r.map Ja) (s.take<|j+1)=setG (hdF (t.map λr=>r.map Ja)<|s.take j) p.1 p.2 Jb from gp _ _ H] at m;generalize hdF (t.map λr=>r.map Ja) (s.take j)=c at T m ⊢;obtain⟨I,J⟩:=U p<|Qz H;dsimp only[dP];dsimp only[gO,bC,cM,bD,cJ,f6,aL,Qa,aM,aB,aA,bJ];refine td (i:=p.1) (j:=p.2) (v:=Jb) T rfl I J (λQ q=>⟨rfl,q⟩) (λQ X q=> ?_) (λQ X q=> ?_) ?_
  ·dsimp only[aD,aF,Qa,aJ,aB,aA,aK,bv];exact q
  ·dsimp only[aD,aF,Qa,aJ,aB,aA,aK,bv];exact q
  ·dsimp only[aL,Qa,aM,aB,aA];exact m _ ⟨Ja (.int p.1,Jc),Ja (.int p.2,Jc),_,_,rfl⟩
 ·rintro L ⟨u,v,F,Z,rfl⟩;rw[Ke];refine f7 ?_;refine bk ?_
  (dsimp only[aP,flags,aC,aG,aU,aE,aI,aT,aD,aF,Qa,aJ,aB,aA,aK,bj,aS,bB,cb,bI];refine⟨rfl,?_⟩)
  refine z.hc<|yf e R ?_;dsimp only[aA,b6,tgl,bC,bL,bD,bK,aB,bA,aH,aL,Qa,aM];refine bM ?_
  (dsimp only[bS,fsts,dtup,aC,aG,aV,aU,aE,aI,aW,aT,aR,aN,aD,aF,Qa,aJ,aA,aB,aK,b6,tgl,bC,bL,bD,bK,gK,cV,bj,bB,eE,cb,dl,bI,aS];refine⟨by decide,?_⟩)
  exact z.qr k
end
abbrev dH(t:List (List Int))(bd wd:Int):D:= .inst "Hider" [dT t,.int bd,.int wd]
theorem mr(a b c:D):dfld G1 "table" (.inst "Hider" [a,b,c])=Ja a:=rfl
theorem AH(a b c:D):dfld G1 "bound" (.inst "Hider" [a,b,c])=Ja b:=rfl
theorem AW(a b c:D):dfld G1 "width" (.inst "Hider" [a,b,c])=Ja c:=rfl
def dGo:Option Pl->D
 |some q=>dP q
 |none=> .none
def dOp(h w:Nat):Option (Pl->Bool)->D
 |some S=> .list ((PS h w S).map dP)
 |none=> .none
def dStep(t:List (List Int))(h w:Nat)(x:(Pl->Bool)×Pl):D:= .tup [dP x.2,lowD (PS h w x.1) h w x.2<|enT t h w x.1 Jd x.2,higD (PS h w x.1) h w x.2 (enT t h w x.1 Jc x.2)]
abbrev dRoad(t:List (List Int))(h w:Nat)(l:List ((Pl->Bool)×Pl)):D:= .list (l.map<|dStep t h w)
theorem oA:D.isNone .none=Jc:=rfl
theorem x7(q:Pl):D.isNone (dP q)=Jd:=rfl
theorem ul(ps:List Pl)(h w:Nat)(p:Pl)(x:Pl->Int):D.atom (lowD ps h w p x)=Jd:=by
 unfold lowD;cases decide (x p>0)<;>rfl
theorem yS(ps:List Pl)(h w:Nat)(p:Pl)(x:Pl->Int):D.atom (higD ps h w p x)=Jd:=rfl
theorem yv{L u:Type}[DecidableEq L](g:L->u)(x:L):upd g x (g x)=g:=by
 funext z;by_cases q:z=x
 ·rw[q];exact bU g x _
 ·exact cm g _ q
theorem rH{L:Type}(f:L->Bool){l:List L}{j:Nat}{a:L}(H:l[j]? =Ja a):(l.take (j+1)).find? f=((l.take j).find? f).or (cond (f a) (Ja a) Jb):=by
 rw[eK H,List.find?_append,List.find?_cons];cases f a<;>rfl
theorem psl(R:Rect t h w)(g:Pl->Bool):(PS h w g).length<=64:=Wg<|nb h w R.h8 R.w8 g
inductive PlI(t:List (List Int))(h w:Nat)(wd bd:Int)(r:Option (Pl->Bool))(rd:List ((Pl->Bool)×Pl))(k:Nat)(Δ:DRho):Prop
 |mk (g:Pl->Bool) (pre:List ((Pl->Bool)×Pl)) (c1 c2:Bool) (u1 u2 u3 u4 u5:Option (D×Bool)) (hk:(PS h w g).length<k) (hp:pre.length+k=65) (hr:(peelT t h w wd bd k g).1=r) (hl:pre++(peelT t h w wd bd k g).2=rd)
  (e:Δ=(Nb "self" c1 (dH t bd wd)<|Nb "places" c2 (.list<|(PS h w g).map dP)<|Nb "road" Jc (dRoad t h w pre)<|No "bounds" u1<|No "gone" u2<|No "place" u3<|No "low" u4<|No "high" u5<|[])):PlI t h w wd bd r rd k Δ
section
variable{C:Cx}{mg mb:Jq->Option Jf}{n:Nat}{Q:D->Bool->Prop}{X:DX}{t:List (List Int)}{h w:Nat}{wd bd:Int}
theorem jk(e:Env1 C G1 mg mb)(R:Rect t h w){p:Pl}(D:p.1<h/\p.2<w){d b:Bool}(k:Q (.bool (smT t bd p)) Jc):aQ (aO C (n+2)) "Hider.small" [(dH t bd wd,d),(dP p,b)] Q X:=by
 refine e.fn eQ (bu 48 rfl) rfl λc u P PX g=> ?_;dsimp only[eQ];dsimp only[aZ,ch,bt];refine bM ?_
 (dsimp only[aP,flags,aC,aG,aU,aE,aI,aT,ei,aF,Qa,aB,aA,aK,aD];refine⟨rfl,?_⟩)
 refine aY (mr _ _ _) ?_;dsimp only[bj,aS];refine aY (AH _ _ _) ?_;dsimp only[bv,aH,br];refine g.hc<|vu e R D ?_;exact g.qr k
theorem Ao(e:Env1 C G1 mg mb)(K:ClsC C cls8){ps:List Pl}{x:Pl->Int}(l:ps.length<=64)(k:∀xs,NearX ps xs->Q (dIn ps x xs) Jd):aQ (aO C (n+3)) "Bounds" [(dCt ps x,b)] Q X:=by
 refine tY (c:=cls8) (a1:="counts") (e2:= .call "near_of" [.bi .list [.loc "counts"]]) e.g (todoE e.g e.x) K rfl rfl (by decide) ?_
 (dsimp only[aP,flags,aC,aG,aU,aE,aI,aT,bl,ey,ca,aD];refine⟨rfl,rfl,?_⟩)
 refine⟨⟨by rw[Qd];exact dM<|by exact zb2 l rfl,λq o=> ?_⟩,?_⟩
 ·obtain⟨y,o0,rfl⟩:=Ql.mp o;exact dM (show 2<=1000 by decide)
 rw[mK];refine pA (n:=n) e l λxs N=> ?_;exact⟨rfl,k xs N⟩
theorem pP(e:Env1 C G1 mg mb)(K:ClsC C cls8)(R:Rect t h w)(g:Pl->Bool)(k:∀xs,NearX (PS h w g) xs->Q (dIn (PS h w g) (xT t) xs) Jd):aQ (aO C (n+4)) "Hider.bounds_of" [(dH t bd wd,b),(.list ((PS h w g).map dP),V)] Q X:=by
 refine e.fn dj (bu 49 rfl) rfl λM f P PX F=> ?_;dsimp only[dj];dsimp only[aZ,ch,bt];have S:=szT R g;have l:=psl R g;generalize PS h w g=s at S l k ⊢;refine bk ?_
 (dsimp only[ir,bA,aH,aL,Qa,aM,aB,aA];refine⟨rfl,?_⟩)
 refine dG rfl ?_;dsimp only[fsts,aC,aG,aU,aE,aI,aT,ck,aD,aF,Qa,aJ,aB,aA,aK,bj,bB,fM,fH,fG,fF,nh,bC,bL,cM,bD,cJ,bK,fK,d4,gn,cP,fN,fJ,cw];refine cK dP (λi L=>∃u v c Z,L=(Nb "self" c (dH t bd wd)<|Nb "places" Z (.list<|s.map dP)<|Nb "counts" Jc (dCt (s.take i)<|xT t)<|No "row" u<|No "column" v<|[])) _ _ ⟨_,_,_,_,rfl⟩ ?_ ?_
 ·rintro j p L H ⟨u,v,c,Z,rfl⟩ K m;have o:=l5 S.nd H;obtain⟨I,r⟩:=S.mem p<|Qz H;dsimp only[dP];dsimp only[gO,bC,cM,bD,cJ,f6,aL,Qa,aM,aB,aA,bJ];refine jz b8 (a:=p) (g:=λq=> .int (xT t q)) (xs:=s.take j) (dk:=dP p) (dv:= .int (xT t p)) rfl (S.nd.sublist<|Yj _ _) (cS<|by rw[Yq];exact zl (Yr _ _)<|zb1 l rfl) (cY p) (λQ q=> ?_) (λQ X q=> ?_) ?_
  ·rw[xQ];dsimp only[aR,aD,aF,Qa,aA,aB,aK,ei];refine aY (mr _ _ _) ?_;dsimp only[bj];refine aY (gL R I) ?_;dsimp only[bj];refine aY (gy R I r) ?_;exact⟨rfl,q⟩
  ·(dsimp only[bS,fsts,dtup,aC,aG,aV,aU,aE,aI,aW,aT,aD,aF,Qa,aA,aB,aK,bv,br];refine⟨by decide,?_⟩)
   exact q
  ·dsimp only[aL,Qa,aB,aA];refine m _ ⟨Ja (.int p.1,Jc),Ja (.int p.2,Jc),c,Z,?_⟩;rw[eK H,kW o,yv (λq=>D.int<|xT t q) p];rfl
 ·rintro L ⟨u,v,c,Z,rfl⟩;rw[Ke];refine f7 ?_;refine bM ?_
  (dsimp only[aP,flags,aC,aG,aU,aE,aI,aT,aD,aF,Qa,aJ,aB,aA,aK,dA,aS,bB,cb,bI];refine⟨rfl,?_⟩)
  refine F.hc (Ao e K l λxs N=> ?_);exact F.qr<|k xs N
theorem xb{M:D->DRho->Prop}:dwm G c z .none L M=dwe G c .none z (λd t=>t=Jb/\M d L) λo0 o0=>False:=rfl
theorem pe(e:Env1 C G1 mg mb)(K:ClsC C cls8)(R:Rect t h w)(N:NN t)(g:Pl->Bool){d J:Bool}(k:Q (.tup [dOp h w (peel t h w wd bd g).1,dRoad t h w (peel t h w wd bd g).2]) Jd\/∀o,Q (.tup [o,dRoad t h w (peel t h w wd bd g).2]) Jc):aQ (aO C (n+5)) "Hider.peeled" [(dH t bd wd,d),(.list ((PS h w g).map dP),J)] Q X:=by
 refine e.fn ew (bu 50 rfl) rfl λcl cu PQ PX F=> ?_;dsimp only[ew];dsimp only[aZ,ch,bt];refine bk ?_
 (dsimp only[bH,fsts,dnew,aE,aI,aW,aT,bA,aH,aL,Qa,aM,aB,aA];refine⟨by decide,?_⟩)
 generalize E:(peel t h w wd bd g).1=r at k;generalize l:(peel t h w wd bd g).2=B at k;refine iu rfl 66 ?_;refine fA (PlI t h w wd bd r B) ?_ _ 65 _ (QI _) ⟨g,[],_,_,_,_,_,_,_,nb h w R.h8 R.w8 g,rfl,E,l,rfl⟩;clear E l g;rintro f L ⟨g,O,c,Z,u1,u2,u3,Y,M,A,a,E,l,rfl⟩ KK m;obtain⟨f,rfl⟩:∃f',f=f'+1:=⟨f-1,by exact zpr A⟩
 have S:=szT R g;have H:=psl R g;have G:=goodT R N g;dsimp only[cD,bw,aA];refine bk ?_
 (dsimp only[bY,aG,aU,aC,aE,aI,aT,aD,aF,Qa,aJ,aB,aA,aK,bj,aS,bB,eB,gc,tgl,bC,bL,cM,bD,cJ,bK,cb,dl,bI];refine⟨rfl,rfl,?_⟩)
 refine F.hc (pP e K R g λI b=> ?_);dsimp only[aB,gc,tgl,bC,d4,bD,bK,fM,fH,Qa,fG,fF,fK,nh,bL,cM,cJ,aA,gn,fN,fJ,aS,aL,aM];refine bk ?_;dsimp only[dU,bA,aH,aL,Qa,aM,aB,aA];refine dG rfl ?_;dsimp only[fsts,aC,aG,aU,aE,aI,aT,ck,aD,aF,Qa,aJ,aB,aA,aK,bj,bB,fM,fH,fG,fF,nh,bC,bL,cM,bD,cJ,bK,fK,d4,BY,gn,fN,fJ,cw];refine cK dP (λi L=>∃u c Z,L=(Nb "self" c (dH t bd wd)<|Nb "places" Z (.list<|(PS h w g).map dP)<|Nb "road" Jc (dRoad t h w O)<|Nb "bounds" Jd (dIn (PS h w g) (xT t) I)<|Nb "gone" Jc (dGo<|((PS h w g).take i).find? (gvT t h w wd g))<|No "place" u<|No "low" Y<|No "high" M<|[])) _ _ ⟨_,_,_,rfl⟩ ?_ ?_
 ·rintro j p L v ⟨u,c,Z,rfl⟩ K m;rw[rH (gvT t h w wd g) v] at m;have U:=Qz v;dsimp only[b5,aL,Qa,aM,aB,aA,bJ];refine cp ?_;dsimp only[c6,bY,aG,aC,aE,aI,ei,aF,Qa,aJ,aB,aA,aK,aD,eB,gc,tgl,bC,d4,bD,bK,aS,bw,dw]
  induction q:((PS h w g).take j).find? (gvT t h w wd g) with
  |some y=>
   rw[q] at m;dsimp only[dGo];refine⟨rfl,?_⟩;rw[x7];dsimp only[aB];exact m _ ⟨Ja (dP p,Jc),c,Z,rfl⟩
  |none=>
   rw[q] at m;dsimp only[dGo];refine⟨rfl,?_⟩;rw[oA]
   (dsimp only[aA];refine⟨rfl,rfl,?_⟩)
   refine aY (AW _ _ _) ?_;dsimp only[bv,aH];refine F.hc<|so e S b H G U ?_;dsimp only[bw];have m:∀P,(∃u c Z,P=(Nb "self" c (dH t bd wd)<|Nb "places" Z (.list<|(PS h w g).map dP)<|Nb "road" Jc (dRoad t h w O)<|Nb "bounds" Jd (dIn (PS h w g) (xT t) I)<|Nb "gone" Jc (dGo<|cond (gvT t h w wd g p) (Ja p) Jb)<|No "place" u<|No "low" Y<|No "high" M<|[]))->K .next P:=m;show cond (gvT t h w wd g p) _ _
   induction z:gvT t h w wd g p with
   |true=>
    rw[z] at m;refine bk ?_;dsimp only[aD,aF,Qa,aJ,aB,aA,aK];exact m _ ⟨Ja (dP p,Jc),c,Z,rfl⟩
   |false=>
    rw[z] at m;exact m _ ⟨Ja (dP p,Jc),c,Z,rfl⟩
 ·rintro L ⟨u,c,Z,rfl⟩;rw[Ke];refine f7 ?_;refine cp ?_;dsimp only[dw,bw,aD,aF,Qa,aJ,aB,aA,aK];change _=_ at E
  induction q:gone t h w wd g with
  |none=>
   rw[lW q] at E l;rw[show(PS h w g).find? (gvT t h w wd g)=Jb from q];dsimp only[dGo];refine⟨rfl,?_⟩;rw[oA];dsimp only[aA];rw[QH] at l;rw[<-E,<-l] at k
   rcases k with k|k
   ·refine bM ?_
    (dsimp only[bS,fsts,dtup,aC,aG,aV,aU,aE,aI,aW,aT,aD,aF,Qa,aJ,aB,aA,aK,bj,bB,cb,dl,bI,aS];refine⟨by decide,?_⟩)
    exact F.qr k
   ·refine cL ?_
    rcases Z with⟨⟩
    ·(dsimp only[dg,cH,aV,df,aW,b9,aL,Qa,aM,aB,aA,aF,aJ,aK,bL];refine⟨by decide,?_⟩)
     exact F.qr<|k _
    ·(dsimp only[dg,cH,aV,df,aW,b9,aL,Qa,aM,aB,aA,aF,aJ,aK,bL];refine⟨by decide,?_⟩)
     exact F.qr<|k _
  |some y=>
   obtain⟨W,hv⟩:=nV q;rw[show(PS h w g).find? (gvT t h w wd g)=Ja y from q];dsimp only[dGo];refine⟨rfl,?_⟩;rw[x7];dsimp only[aB];refine dt rfl ?_
   (dsimp only[bY,aG,aU,aC,aE,aI,aT,bl,ce,aH,br,ca,aR,aN,ei,aF,Qa,aJ,aB,aA,aK,aD,eB,gc,tgl,bC,d4,bD,bK,aS];refine⟨rfl,rfl,rfl,?_⟩)
   refine aY (mr _ _ _) ?_
   (dsimp only[cI,cN];refine⟨rfl,?_⟩)
   refine aY (mr _ _ _) ?_;refine aY (g6 R) ?_;dsimp only[cI,cN];rw[R.lenD,R.len0];refine F.hc<|tN e S b H G W ?_;dsimp only[aA,b6,tgl,bC,bD,f6,bJ];rw[ul];dsimp only[bK,aB,bA,aH,aL,Qa,aM,aA];refine iM ?_
   (dsimp only[aF,Qa,aJ,aB,aA,aK,dW,dg,cH,aV,df,aW,b9,aL,aM];refine⟨trivial,?_⟩)
   rw[ul,yS];dsimp only[aB];rw[d3];have V:(O.map (dStep t h w)++[D.tup [dP y,lowD (PS h w g) h w y<|endF (PS h w g) (RT t h w g) Jd y (xT t),higD (PS h w g) h w y (endF (PS h w g) (RT t h w g) Jc y<|xT t)]])=(O++[(g,y)]).map (dStep t h w):=ju (dStep t h w) O (g,y);rw[V];have x:O.length<65:=QK (Yb<|Nat.succ_pos f)<|QT a;refine⟨dM<|by decide,rfl,by rw[Qd];exact cS<|zll x (by decide),?_⟩;refine cp ?_
   (dsimp only[bY,aG,aC,aE,aI,aD,aF,Qa,aJ,aB,aA,aK,eB,gc,tgl,bC,bL,cM,bD,cJ,bK,aS];refine⟨rfl,rfl,?_⟩)
   refine F.hc<|jk e R (PS_mem.mp W).1 ?_;dsimp only[bw]
   induction s:smT t bd y with
   |true=>
    rw[n0 q s] at E l;dsimp only[aA];rw[<-E,<-l] at k
    rcases k with k|k
    ·refine bM ?_
     (dsimp only[bS,fsts,dtup,aC,aG,aV,aU,aE,aI,aW,aT,aD,aF,Qa,aJ,aB,aA,aK,bj,bB,dU,br,aS];refine⟨by decide,?_⟩)
     exact F.qr k
    ·refine cL ?_;dsimp only[dg,cH,aV,df,aW,b9];rw[xb]
     (dsimp only[aL,Qa,aM,aB,aA,aF,aJ,aK,bL,dU];refine⟨rfl,by decide,?_⟩)
     exact F.qr<|k _
   |false=>
    rw[rD q s] at E l;dsimp only[aB];refine ct ?_;refine bk ?_;refine cF rfl ?_;dsimp only[fsts,aC,aG,aU,aE,aI,aT,ck,aD,aF,Qa,aJ,aB,aA,aK,bj,bB,cw];refine cg dP dP (λq=> !decide (q=y)) (λq hq=> ?_) ?_
    ·dsimp only[bp,cA,b5,aM,Qa,aL,aB,aA,bJ];refine⟨λT hT=> ?_,λo0 K k=> ?_⟩
     ·dsimp only[tstD]
      (dsimp only[aX,bw,eD,deq,aD,aJ,Qa,aF,aB,aA,aK];refine⟨⟨rfl,rfl⟩,?_⟩)
      rw[jH];exact hT
     ·dsimp only[elD];dsimp only[aD,aJ,Qa,aF,aB,aA,aK];exact k
    dsimp only[bA,aH,aL,Qa,aM,aB,aA];rw[<-pM];refine m _ _ (QI f) ⟨rmv g y,O++[(g,y)],c,Jc,_,_,_,_,_,QK (rq W)<|Wg A,?_,E,?_,rfl⟩
    ·rw[QG,<-a];exact(Ym _ 1 f).trans (Ub (O.length+ ·)<|Nat.add_comm 1 f)
    ·rw[<-l,Kn];rfl
end
theorem xD(l:List D):D.isNone (.list l)=Jd:=rfl
theorem sq{L u:Type}(f:u->L->u)(b:u){l:List L}{j:Nat}{a:L}(H:l[j]? =Ja a):(l.take (j+1)).foldl f b=f ((l.take j).foldl f b) a:=gp f b H
theorem qE{g:Pl->Bool}{p:Pl}(K:p.1<h/\p.2<w):(((PS h w g).map dP).any λd=>D.eqv d (dP p))=g p:=by
 rw[KM,Ki]
 constructor
 ·rintro ⟨d,v,z⟩;obtain⟨q,o,rfl⟩:=Ql.mp v;rw[jH] at z;rw[<-Y6 z];exact(PS_mem.mp o).2
 ·exact λz=>⟨dP p,Ql.mpr ⟨p,PS_mem.mpr ⟨K,z⟩,rfl⟩,by rw[jH];exact Y4 rfl⟩
section
variable{C:Cx}{mg mb:Jq->Option Jf}{n:Nat}{Q:D->Bool->Prop}{X:DX}{t:List (List Int)}{h w:Nat}{wd bd:Int}
theorem ly(e:Env1 C G1 mg mb)(K:ClsC C cls8)(R:Rect t h w)(N:NN t)(g:Pl->Bool)(p:Pl)(k:Q (.tup [dOp h w (peel t h w wd bd (rmv g p)).1,dRoad t h w (peel t h w wd bd (rmv g p)).2]) Jd\/∀d,Q (.tup [d,dRoad t h w (peel t h w wd bd (rmv g p)).2]) Jc):aQ (aO C (n+6)) "Hider.without" [(dH t bd wd,b),(.list ((PS h w g).map dP),V),(dP p,W)] Q X:=by
 refine e.fn dY (bu 51 rfl) rfl λl c P PX F=> ?_;dsimp only[dY];dsimp only[aZ,ch,bt];refine bM ?_
 (dsimp only[bY,aG,aU,aC,aE,aI,aT,aD,aF,Qa,aB,aA,aK,eB,gc,tgl,bC,bL,cM,bD,cJ,bK,aS];refine⟨rfl,rfl,?_⟩)
 refine cF rfl ?_;dsimp only[fsts,aC,aG,aU,aE,aI,aT,ck,aD,aF,Qa,aB,aA,aK,bj,bB,cw];refine cg dP dP (λq=> !decide (q=p)) (λq o=> ?_) ?_
 ·dsimp only[bp,cA,b5,aM,Qa,aL,aB,aA,bJ];refine⟨λT Y=> ?_,λo0 K k=> ?_⟩
  ·dsimp only[tstD]
   (dsimp only[aX,bw,eD,deq,aD,aJ,Qa,aF,aA,aB,aK];refine⟨⟨rfl,rfl⟩,?_⟩)
   rw[jH];exact Y
  ·dsimp only[elD];dsimp only[aD,aJ,Qa,aF,aB,aA,aK];exact k
 dsimp only[aH,br,bB,cb,bI];rw[<-pM];refine F.hc<|pe e K R N (rmv g p) ?_
 rcases k with k|k
 ·refine .inl ?_;dsimp only[aB,b6,tgl,bC,bL,bD,bK];rw[WI];exact F.qr k
 ·refine .inr λd=> ?_;dsimp only[aA,b6,tgl,bC,bL,bD,bK];rw[WI];exact F.qr<|k d
theorem uQ(e:Env1 C G1 mg mb)(K:ClsC C cls8)(R:Rect t h w)(N:NN t)(g:Pl->Bool)(k:Q (.list ((PS h w ((PS h w g).foldl (few1 t h w wd bd) g)).map dP)) Jd):aQ (aO C (n+7)) "Hider.fewest" [(dH t bd wd,b),(.list ((PS h w g).map dP),V)] Q X:=by
 refine e.fn er (bu 52 rfl) rfl λl f P PX F=> ?_;dsimp only[er];dsimp only[aZ,ch,bt];refine dG rfl ?_
 (dsimp only[fsts,aC,aG,aU,aE,aI,aT,ck,bl,ey,ca,aD,aF,Qa,aJ,aB,aA,aK,bj,pY,tgl,cw];refine⟨rfl,?_⟩)
 rw[de dP d3];dsimp only[aA,br,bA];refine cK dP (λi L=>∃u v c Z,L=(Nb "self" c (dH t bd wd)<|Nb "places" Z (.list<|(PS h w<|((PS h w g).take i).foldl (few1 t h w wd bd) g).map dP)<|No "place" u<|No "fewer" v<|[])) _ _ ⟨_,_,_,_,rfl⟩ ?_ ?_
 ·rintro j p L H ⟨u,v,c,Z,rfl⟩ o m;have D:=(PS_mem.mp<|Qz H).1;rw[sq (few1 t h w wd bd) g H] at m;generalize ((PS h w g).take j).foldl (few1 t h w wd bd) g=a at m ⊢;unfold few1 at m;dsimp only[b5,aL,Qa,aM,aB,aA,bJ];refine cp ?_;dsimp only[c6,bW,bw,bY,aG,aC,aE,aI,aD,aF,Qa,aJ,aB,aA,aK,eB,gc,tgl,bC,bL,cM,bD,cJ,bK,aS,aX,o8];rw[np];refine⟨⟨rfl,b7 dP (λp=>rfl) _⟩,?_⟩;rw[qE D];skip
  induction q:a p with
  |false=>
   rw[q] at m;dsimp only[aB];exact m _ ⟨Ja (dP p,Jc),v,c,Z,rfl⟩
  |true=>
   rw[q] at m
   (dsimp only[aA];refine⟨rfl,rfl,?_⟩)
   refine F.hc<|jk e R D ?_;dsimp only[bw]
   induction s:smT t bd p with
   |true=>
    rw[s] at m;dsimp only[cy,aB];exact m _ ⟨Ja (dP p,Jc),v,c,Z,rfl⟩
   |false=>
    rw[s] at m;dsimp only[lr,aA];refine bk ?_
    (dsimp only[aR,aN,bY,aG,aU,aC,aE,aI,aT,aD,aF,Qa,aJ,aB,aA,aK,bj,aS,eB,gc,tgl,bC,bL,cM,bD,cJ,bK];refine⟨rfl,rfl,?_⟩)
    refine F.hc<|ly e K R N a p (.inl ?_);dsimp only[aB,b6,tgl,bC,bL,bD,bK,eE,cV];rw[WI,xN,d3]
    induction z:(peel t h w wd bd<|rmv a p).1 with
    |none=>
     rw[z] at m;dsimp only[dOp];dsimp only[br,bB,cb,dl,bI,aB,Ax,bA,aH,aL,Qa,aM,aA];refine cp ?_
     (dsimp only[cW,bw,aD,aF,Qa,aA,aB,aK];refine⟨rfl,?_⟩)
     rw[oA];dsimp only[cy,aB];refine ct ?_;exact m _ ⟨Ja (dP p,Jc),_,c,Z,rfl⟩
    |some S=>
     rw[z] at m;dsimp only[dOp];dsimp only[br,bB,cb,dl,bI,aB,bj,fM,fH,Qa,fG,fF,fK,nh,bC,bL,cM,bD,cJ,bK,aA,gn,fN,fJ,aS,aL,aM];refine cp ?_
     (dsimp only[cW,bw,aD,aF,Qa,aA,aB,aK];refine⟨rfl,?_⟩)
     rw[xD];dsimp only[lr,aA];refine bk ?_;dsimp only[aD,aF,Qa,aA,aB,aK,bj,fM,fH,fG,fF,nh,bC,bL,cM,bD,cJ,bK,fK,fN,fJ,aS,aL];refine ct ?_;exact m _ ⟨Ja (dP p,Jc),_,_,_,rfl⟩
 ·rintro L ⟨u,v,c,Z,rfl⟩;rw[Ke];refine f7 ?_;refine bM ?_;dsimp only[aD,aF,Qa,aJ,aB,aA,aK,bj,aS];exact F.qr k
end
def othF(t:List (List Int))(h w:Nat)(bd:Int)(P:Pl->Bool):List Pl:=(PS h w P).filter λp=> !smT t bd p
def outX:Out->Pl->Int
 | .tab x=>x
 | .no _ _=>λo0=>0
def edT(t:List (List Int))(h w:Nat)(P:Pl->Bool)(hi:Bool)(p:Pl):List (List Int):=tabV (cT t h w P) (endF (psF (cT t h w P) h w) (r1F (cT t h w P)<|rsF t) hi p<|outX (outV (cT t h w P) (rsF t) (csF t w) h w)) h w
def prD(t:List (List Int))(h w:Nat)(P:Pl->Bool)(p:Pl):D:= .tup [dP p,dT<|edT t h w P Jd p,dT (edT t h w P Jc p)]
def rdD(t:List (List Int))(h w:Nat)(wd bd:Int)(P:Pl->Bool)(p:Pl):D:= .tup [dP p,dRoad t h w (peel t h w wd bd<|rmv P p).2]
def papD(t:List (List Int))(h w:Nat)(wd bd:Int)(P:Pl->Bool):D:=
 .tup [.list ((PS h w<|smT t bd).map dP),.list<|(othF t h w bd P).map dP,.list<|(PS h w P).map (prD t h w P),.list ((othF t h w bd P).map (rdD t h w wd bd P))]
abbrev finP(t:List (List Int))(h w:Nat)(wd bd:Int)(S:Pl->Bool):Pl->Bool:=(PS h w S).foldl (few1 t h w wd bd) S
def hideF(t:List (List Int))(h w:Nat)(wd bd:Int):Option D:=cond (decide (PS h w (smT t bd)=[])) (Ja (.tup [.list [],.list [],.list [],.list []])) ((peel t h w wd bd λo0=>Jc).1.map λS=>papD t h w wd bd (finP t h w wd bd S))
theorem y8(h w:Nat):PS h w (λo0=>Jc)=allF h w:=List.filter_eq_self.mpr λo0 o0=>rfl
theorem qH(l:List Pl):D.eqv (.list (l.map dP)) (.list [])=decide (l=[]):=by
 rcases l with o0|⟨a,l⟩
 ·rfl
 ·rw[Y5 (by simp)];rfl
section
variable{C:Cx}{mg mb:Jq->Option Jf}{n:Nat}{Q:D->Bool->Prop}{X:DX}{t:List (List Int)}{h w:Nat}{wd bd:Int}
theorem zC(e:Env1 C G1 mg mb)(K:ClsC C cls8)(O:ClsC C cls9)(R:Rect t h w)(N:NN t)(B:1<=bd)(I:1<=wd){M E W:Bool}
  (m:∀d,hideF t h w wd bd=Ja d->Q d Jc)(x:hideF t h w wd bd=Jb->X "NotHidden" [.hole]):aQ (aO C<|n+8) "hide" [(dT t,M),(.int bd,E),(.int wd,W)] Q X:=by
 refine e.fn ng (bu 25 rfl) rfl λcl Z A PX g=> ?_;dsimp only[ng];dsimp only[aZ,ch,bt];refine jh ?_
 (dsimp only[aP,flags,aC,aG,aE,aI,aD,aF,Qa,aJ,aB,aA,aK,bj,aS];refine⟨rfl,?_⟩)
 refine g.hc<|zT e R N ?_;refine jh ?_
 (dsimp only[aP,flags,aC,aG,aE,aI,aD,aF,Qa,aJ,aB,aA,aK,bv,aH];refine⟨rfl,?_⟩)
 refine g.hc<|lH e B ?_;refine jh ?_
 (dsimp only[aP,flags,aC,aG,aE,aI,aD,aF,Qa,aJ,aB,aA,aK,bv,aH];refine⟨rfl,?_⟩)
 refine g.hc<|lH e I ?_;refine bk ?_
 (dsimp only[aP,flags,aC,aG,aU,aE,aI,aT,aD,aF,Qa,aJ,aB,aA,aK,bv,aH,br,bj,aS,bB,cb,bI];refine⟨rfl,?_⟩)
 refine g.hc<|u9 (c:=cls9) (n:=n+5) (a1:="table") (a2:="bound") (a3:="width") e.g (todoE e.g e.x) O rfl rfl (by decide) ?_;dsimp only[aB,gc,tgl,bC,bL,cM,bD,cJ,bK,fM,fH,Qa,fG,fK,aA,fF,gn,cP,fN,fJ,aS,aL,aM];refine bk ?_;refine cF rfl ?_
 (dsimp only[fsts,aC,aG,aU,aE,aI,aT,ck,aP,flags,aD,aF,Qa,aJ,aB,aA,aK,bj,aS,bB,cb,bI];refine⟨rfl,?_⟩)
 refine g.hc<|lD e R ?_;dsimp only[cw,aA,bj,br];refine cg dP dP (smT t bd) (λq o=> ?_) ?_
 ·dsimp only[bp,cA,b5,aM,Qa,aL,aB,aA,bJ];refine⟨λT Y=> ?_,λo0 K k=> ?_⟩
  ·dsimp only[tstD]
   (dsimp only[bY,aG,aC,aE,aI,aD,aJ,Qa,aF,aB,aA,aK,eB,gc,tgl,bC,bL,cM,bD,cJ,bK,aS];refine⟨rfl,rfl,?_⟩)
   exact g.hc<|jk e R (allF_mem.mp o) Y
  ·dsimp only[elD];dsimp only[aD,aJ,Qa,aF,aB,aA,aK];exact k
 dsimp only[bA,aH,aL,Qa,aM,aB,aA];rw[show(allF h w).filter (smT t bd)=PS h w (smT t bd) from rfl];refine cp ?_
 (dsimp only[aX,bw,ej,deq,bH,fsts,dnew,aE,aI,aW,aD,aF,Qa,aJ,aB,aA,aK];refine⟨by decide,?_⟩)
 refine⟨⟨by rw[c9];exact b7 dP (λp=>rfl) _,rfl⟩,?_⟩;rw[qH];refine cE (λf=> ?_) λf=> ?_
 ·rw[hideF,Y4 f] at m;refine bM ?_
  (dsimp only[bS,fsts,dtup,aC,aG,aV,aU,aE,aI,aW,aT,bH,dnew,br,aH];refine⟨by decide,by decide,by decide,by decide,by decide,?_⟩)
  exact g.qr<|m _ rfl
 rw[hideF,Y5 f] at m x;refine ct ?_;refine dt rfl ?_
 (dsimp only[bY,aG,aU,aC,aE,aI,aT,aP,flags,aD,aF,Qa,aJ,aB,aA,aK,bj,aS,bB,cb,bI,eB,gc,tgl,bC,bL,cM,bD,cJ,bK];refine⟨rfl,rfl,rfl,?_⟩)
 refine g.hc<|lD e R ?_;dsimp only[aA,bj,aH,br,bB,cb,bI];rw[<-y8];refine g.hc<|pe e K R N (λo0=>Jc) (.inl ?_);dsimp only[aB,b6,tgl,bC,bL,bD,bK,f6,bJ];rw[WI];dsimp only[aB,fM,fH,Qa,fG,fF,bL,bK,cM,cJ,fK,nh,bC,bD,aA,gn,cP,fN,fJ,aS,aL,aM];refine cp ?_
 induction z:(peel t h w wd bd λo0=>Jc).1 with
 |none=>
  dsimp only[dOp]
  (dsimp only[dw,bw,aD,aF,Qa,aJ,aB,aA,aK];refine⟨rfl,?_⟩)
  rw[oA];dsimp only[aA];refine ny ⟨rfl,rfl,.inr ⟨rfl,rfl⟩⟩ ?_;dsimp only[fsts,aC,aG,aE,aI,aD,aF,Qa,aJ,aB,aA,aK];rw[z] at x;exact g.qx<|x rfl
 |some S=>
  dsimp only[dOp]
  (dsimp only[dw,bw,aD,aF,Qa,aJ,aB,aA,aK];refine⟨rfl,?_⟩)
  rw[xD];dsimp only[aB];refine ct ?_;refine bk ?_
  (dsimp only[bY,aG,aU,aC,aE,aI,aT,aD,aF,Qa,aJ,aB,aA,aK,bj,aS,bB,eB,gc,tgl,bC,bL,cM,bD,cJ,bK,cb,dl,bI];refine⟨rfl,rfl,?_⟩)
  refine g.hc<|uQ e K R N S ?_;rw[z] at m;replace m:Q (papD t h w wd bd<|(PS h w S).foldl (few1 t h w wd bd) S) Jc:=m _ rfl;generalize (PS h w S).foldl (few1 t h w wd bd) S=P at m ⊢;dsimp only[aB,bj,fM,fH,Qa,fG,fF,bL,bK,cM,cJ,fK,nh,bC,bD,aA,gn,cP,fN,fJ,aS,aL,aM];refine bk ?_;refine cF rfl ?_;dsimp only[fsts,aC,aG,aU,aE,aI,aT,ck,aD,aF,Qa,aJ,aB,aA,aK,bj,bB,cw];refine cg dP dP (λp=> !smT t bd p) (λq o=> ?_) ?_
  ·dsimp only[bp,cA,b5,aM,Qa,aL,aB,aA,bJ];refine⟨λT Y=> ?_,λo0 K k=> ?_⟩
   ·dsimp only[tstD]
    (dsimp only[bW,bw,bY,aG,aC,aE,aI,aD,aJ,Qa,aF,aB,aA,aK,eB,gc,tgl,bC,bL,cM,bD,cJ,bK,aS];refine⟨rfl,rfl,?_⟩)
    refine g.hc<|jk e R (PS_mem.mp o).1 ?_;exact Y
   ·dsimp only[elD];dsimp only[aD,aJ,Qa,aF,aB,aA,aK];exact k
  dsimp only[bA,aH,aL,Qa,aM,aB,aA];rw[show(PS h w P).filter (λp=> !smT t bd p)=othF t h w bd P from rfl];refine bk ?_
  (dsimp only[aP,flags,aC,aG,aU,aE,aI,aT,aD,aF,Qa,aJ,aB,aA,aK,bj,aS,bB,cb,dl,bI];refine⟨rfl,?_⟩)
  refine g.hc<|yq e R P ?_;dsimp only[aB,b6,tgl,bC,bL,bD,bK,fM,fH,Qa,fG,fF,fK,aA,cM,cJ,nh,gn,cP,fN,fJ,aS,aL,aM];refine bk ?_
  (dsimp only[bH,fsts,dnew,aE,aI,aW,aT,bA,aH,aL,Qa,aM,aB,aA];refine⟨by decide,?_⟩)
  refine dG rfl ?_;dsimp only[fsts,aC,aG,aU,aE,aI,aT,ck,aD,aF,Qa,aJ,aB,aA,aK,bj,bB,fM,fH,fG,fF,bL,bK,cM,cJ,nh,bC,bD,fK,gO,gn,cP,fN,fJ,cw];have V:=vokT R N P;refine cK dP (λi L=>∃u v b,L=(Nb "table" Jd (dT t)<|Nb "bound" E (.int bd)<|Nb "width" W (.int wd)<|Nb "hider" Jd (dH t bd wd)<|Nb "first" Jc (.list<|(PS h w<|smT t bd).map dP)<|Nb "places" Jd (.list<|(PS h w P).map dP)<|Nb "road" Jd (dRoad t h w (peel t h w wd bd λo0=>Jc).2)<|Nb "others" Jc (.list<|(othF t h w bd P).map dP)<|Nb "view" Jd (.tup [dC (cT t h w P),dI<|rsF t,dI (csF t w)])<|Nb "pairs" Jc (.list<|((PS h w P).take i).map (prD t h w P))<|No "place" u<|No "low" v<|No "high" b<|[])) _ _ ⟨_,_,_,rfl⟩ ?_ ?_
  ·rintro j p L H ⟨u,v,b,rfl⟩ KK s;have o:p∈psF (cT t h w P) h w:=by rw[oE];exact Qz H
   have r:j<64:=QK (QC.mp H).1 (psl R P);dsimp only[b5,aL,Qa,aM,aB,aA,bJ];refine dt rfl ?_
   (dsimp only[aP,flags,aC,aG,aU,aE,aI,aT,aD,aF,Qa,aJ,aB,aA,aK,b6,tgl,bC,bL,bD,bK,aS];refine⟨rfl,?_⟩)
   refine g.hc<|yw e K V (.ok o) (λq=>sn q) (λp' y J F=> ?_) λo0 pa pb o0 F=> ?_
   ·dsimp only[aA,b6,tgl,bC,bL,bD,bK,aB,aH,bA,f6,aL,Qa,aM,bJ];refine iM ?_
    (dsimp only[aF,Qa,aB,aA,aK,dW,dg,cH,aV,df,aW,b9,aL,bL];refine⟨trivial,?_⟩)
    rw[d3];have l:(((PS h w P).take j).map (prD t h w P)).length<lim:=by rw[Qd];exact QX (List.length_take_le _ _)<|cS (zll r<|by decide)
    refine⟨dM<|by decide,rfl,l,?_⟩;refine s _ ⟨Ja (dP p,Jc),Ja (.hole,Jc),Ja (.hole,Jc),?_⟩;rw[eK H,QD];obtain rfl:=sj J;rw[show([p].map (prD t h w P))=[prD t h w P p] from rfl,prD,edT,edT,F];rfl
   ·have U:Good (psF (cT t h w P) h w) h w (RT t h w P) (CT t h w P) (outV (cT t h w P) (rsF t) (csF t w) h w):=mH (iL V.R) _ _ _ _ (fill0 V)<|QI _;rw[F] at U;have G:=goodT R N P;rw[<-oE t] at G;exact(uo (iL V.R) U G).elim
  ·rintro L ⟨u,v,b,rfl⟩;rw[Ke];refine f7 ?_;refine cL ?_;dsimp only[dg,cH,aV,df,aW,lg,b9,aL,Qa,aM,aB,aA,aF,aJ,aK,bL];refine bV rfl ?_;dsimp only[fsts,aC,aG,aU,aE,aI,aT,ck,aD,aF,Qa,aJ,aB,aA,aK,bj,bB,cw];refine bE dP (rdD t h w wd bd P) (λa ha KD D=> ?_) ?_
   ·dsimp only[bp,cA,b5,aM,Qa,aL,aB,aA,bJ];dsimp only[elD]
    (dsimp only[bS,fsts,dtup,aC,aG,aV,aU,aE,aI,aW,aT,aR,aN,bY,aD,aJ,Qa,aF,aB,aA,aK,bj,aS,eB,gc,tgl,bC,bL,cM,bD,cJ,bK];refine⟨rfl,rfl,?_⟩)
    refine g.hc<|ly e K R N P a (.inr λdz=> ?_)
    (dsimp only[aA,b6,tgl,bC,bL,bD,bK,gK,cV,bj];refine⟨by decide,?_⟩)
    rw[WI];exact D
   ·refine⟨rfl,dM<|by decide,?_⟩;unfold papD at m;exact g.qr m
end
def hcF(ns:List Int)(k:Int):Int:=
 if((mixF ns 2).fdiv 6).fmod 9=0 then kX ns k else
  [0,1+((mixF ns k).fdiv 8).fmod 4,1+((mixF ns k).fdiv 8).fmod 4,5+((mixF ns k).fdiv 8).fmod 9,5+((mixF ns k).fdiv 8).fmod 9,5+((mixF ns k).fdiv 8).fmod 16,4+((mixF ns k).fdiv 8).fmod 9,((mixF ns k).fdiv 8).fmod 40][((mixF ns k).fmod 8).toNat]?.getD 0
theorem AX(ns:List Int)(k:Int):0<=hcF ns k:=by
 unfold hcF
 split
 ·exact uv ns k
 ·have q:=eX (a:=mixF ns k) (b:=8) (by decide);generalize (mixF ns k).fdiv 8=m;have L:∀b:Int,0<b->0<=m.fmod b:=λb R=>(eX R).1;have h:∀ (a b:Int),0<=a->0<b->0<=a+m.fmod b:=λa b N p=>YA N<|L b p;have t:=(KV q.1).mpr q.2;generalize ((mixF ns k).fmod 8).toNat=i at t ⊢
  match i,t with
  |0,_=>exact QZ 0
  |1,_=>exact h 1 4 (by decide)<|by decide
  |2,_=>exact h 1 4 (by decide)<|by decide
  |3,_=>exact h 5 9 (by decide)<|by decide
  |4,_=>exact h 5 9 (by decide)<|by decide
  |5,_=>exact h 5 16 (by decide)<|by decide
  |6,_=>exact h 4 9 (by decide)<|by decide
  |7,_=>exact L 40<|by decide
  |i+8,t=>exact absurd t<|Kc.mpr (Nat.le_add_left 8 i)
def hcT(ns:List Int)(h w:Nat):List (List Int):=(Qc h).map λr=>(Qc w).map λc=>hcF ns<|8+(w:Int)*(r:Nat)+(c:Nat)
theorem s6(ns:List Int)(w j:Nat):dT (hcT ns (j+1) w)= .list ((hcT ns j w).map dI++[.list ((Qc w).map λ(c:Nat)=> .int (hcF ns (8+(w:Int)*(j:Nat)+(c:Nat))))]):=by
 rw[show hcT ns (j+1) w=hcT ns j w++[(Qc w).map λc=>hcF ns (8+(w:Int)*(j:Nat)+(c:Nat))] from(gP _ _).symm];rw[dT,QD,List.map_singleton,dI,QE];rfl
theorem zH(ns:List Int)(h w:Nat):NN (hcT ns h w):=λr T i t=>by
 obtain⟨a,o0,rfl⟩:=Ql.mp T;obtain⟨b,o0,rfl⟩:=Ql.mp t;exact AX _ _
theorem qX(a b:D)(k:Int):dsub (.list [a,b]) (.int (k.fmod 2))=Ja (cond (decide (k.fmod 2=0)) a b):=by
 obtain⟨i,e,h⟩:=mc (a:=k) (b:=2) (by decide);rw[show k.fmod 2=(i:Int) from e]
 match i,h with
 |0,_=>rfl
 |1,_=>rfl
 |i+2,h=>exact absurd h<|Kc.mpr (Nat.le_add_left 2 i)
theorem kD(c:Nat)(a:Int)(b:Nat)(R:1<=b):∃i:Nat,(c:Int)+a.fmod b=(i:Nat)/\c<=i/\i<c+b:=by
 obtain⟨i,e,h⟩:=mc (a:=a) R;exact⟨c+i,by rw[e];rfl,QO c i,Nat.add_lt_add_left h c⟩
section
variable{C:Cx}{mg mb:Jq->Option Jf}{n:Nat}{Q:D->Bool->Prop}{X:DX}
theorem BM(e:Env1 C G1 mg mb){ns:List Int}(s:ns.length<=63)(h:Q (.int (hcF ns k)) Jc):aQ (aO C (n+3)) "_law_hide_count" [(.scr ns,b),(.int k,c)] Q X:=by
 refine e.fn dq (bu 29 rfl) rfl λM u P PX g=> ?_;dsimp only[dq];dsimp only[aZ,ch,bt];refine bk ?_
 (dsimp only[aP,flags,aC,aG,aU,aE,aI,aT,aD,aF,Qa,aJ,aB,aA,aK,bv,aH,br,gJ,bB];refine⟨rfl,?_⟩)
 refine g.hc<|eV e s ?_;dsimp only[aA,bv,bA,aH,aL,Qa,aM,aB];refine bk ?_
 (dsimp only[bq,aN,aD,aF,Qa,aJ,aB,aA,aK,bv,eR,bA,aH,aL,aM];refine⟨by decide,by decide,?_⟩)
 refine cp ?_
 (dsimp only[aX,bw,ej,deq,aN,bq,aP,flags,aC,aG,aU,aE,aI,aT,aH,br,aD,aF,Qa,aJ,aB,aA,aK,gJ,bB];refine⟨rfl,?_⟩)
 refine g.hc<|eV e s ?_
 (dsimp only[eR,cB,cj];refine⟨by decide,by decide,by decide,⟨rfl,rfl⟩,?_⟩)
 unfold hcF at h;refine cE (λi=> ?_) λi=> ?_
 ·rw[Y8 i] at h;refine bM ?_
  (dsimp only[aP,flags,aC,aG,aU,aE,aI,aT,aD,aF,Qa,aJ,aB,aA,aK,bv,aH,br,gJ,bB];refine⟨rfl,?_⟩)
  exact g.hc<|ud e s (g.qr h)
 ·rw[Y7 i] at h;refine ct ?_;refine bk ?_
  (dsimp only[bH,fsts,dnew,aC,aG,aV,aU,aE,aI,aW,aT,bq,aN,aD,aF,Qa,aJ,aB,aA,aK,bv,cB,br,dy,bA,aH,aL,aM];refine⟨by decide,by decide,by decide,by decide,by decide,by decide,by decide,by decide,?_⟩)
  refine bM ?_
  (dsimp only[aR,bq,aN,aD,aF,Qa,aB,aA,aK,bv,cB,bj];refine⟨by decide,?_⟩)
  have q:=eX (a:=mixF ns k) (b:=8) (by decide);generalize (mixF ns k).fdiv 8=m at h ⊢;refine aY (gr (l:=[0,1+m.fmod 4,1+m.fmod 4,5+m.fmod 9,5+m.fmod 9,5+m.fmod 16,4+m.fmod 9,m.fmod 40]) q.1 q.2) ?_;dsimp only[bv,aH];exact g.qr h
theorem vC(e:Env1 C G1 mg mb){ns:List Int}(h:ns.length<=63)(k:∀bd:Int,1<=bd->Q (.int bd) Jc):aQ (aO C (n+2)) "_law_bound" [(.scr ns,b)] Q X:=by
 refine e.fn fq (bu 31 rfl) rfl λc u P PX g=> ?_;dsimp only[fq];dsimp only[aZ,ch,bt];refine bk ?_
 (dsimp only[aP,flags,aC,aG,aU,aE,aI,aT,aN,aH,br,aD,aF,Qa,aJ,aB,aA,aK,gJ,bB];refine⟨rfl,?_⟩)
 refine g.hc<|eV e h ?_;dsimp only[aA,bv,bA,aH,aL,Qa,aM,aB];refine cp ?_
 (dsimp only[aX,bw,ej,deq,aN,bq,aD,aF,Qa,aA,aB,aK,bv,cB,cj];refine⟨by decide,⟨rfl,rfl⟩,?_⟩)
 refine cE (λi=> ?_) λi=> ?_
 ·refine bM ?_
  (dsimp only[bq,aN,pE,aD,aF,Qa,aA,aB,aK,bv,eR,cB,dy,aH];refine⟨by decide,by decide,by decide,by decide,by decide,by decide,?_⟩)
  exact g.qr<|k _ (Kr (eX<|by decide).1)
 ·refine ct ?_;refine bM ?_
  (dsimp only[bq,aN,aD,aF,Qa,aA,aB,aK,bv,eR,cB,dy,aH];refine⟨by decide,by decide,by decide,?_⟩)
  exact g.qr<|k _ (Kr (eX<|by decide).1)
theorem wM(e:Env1 C G1 mg mb){ns:List Int}(s:ns.length<=63)(R:Rect t h w)(k:∀wd:Int,1<=wd->Q (.int wd) Jc):aQ (aO C (n+2)) "_law_width" [(.scr ns,b),(dT t,c)] Q X:=by
 refine e.fn e7 (bu 32 rfl) rfl λM u P PX g=> ?_;dsimp only[e7];dsimp only[aZ,ch,bt];refine bk ?_
 (dsimp only[aP,flags,aC,aG,aU,aE,aI,aT,aN,aH,br,aD,aF,Qa,aJ,aB,aA,aK,gJ,bB];refine⟨rfl,?_⟩)
 refine g.hc<|eV e s ?_;dsimp only[aA,bv,bA,aH,aL,Qa,aM,aB];refine bk ?_
 (dsimp only[bq,aN,aD,aF,Qa,aJ,aB,aA,aK,bv,eR,bA,aH,aL,aM];refine⟨by decide,by decide,?_⟩)
 generalize (mixF ns 4).fdiv 8=m;refine cp ?_
 (dsimp only[aX,bw,aN,bq,bl,ce,aC,aE,ca,aR,aD,aF,Qa,aB,aA,aK,k7,jU,cI,cN];refine⟨rfl,rfl,?_⟩)
 refine aY (g6 R) ?_;dsimp only[cI,cN];rw[R.lenD,R.len0];refine⟨.inl<|zb1 R.h8 rfl,?_⟩;refine cE (λi=> ?_) λi=> ?_
 ·refine bM ?_
  (dsimp only[bq,aN,aD,aF,Qa,aA,aB,aK,bv,cB,dy,aH];refine⟨by decide,?_⟩)
  exact g.qr<|k _ (Kr (eX<|by decide).1)
 ·refine ct ?_;refine bM ?_
  (dsimp only[bq,aR,aN,aD,aF,Qa,aB,aA,aK,bv,cB,bH,fsts,dnew,aC,aG,aV,aU,aE,aI,aW,aT,pE,br];refine⟨by decide,by decide,by decide,by decide,by decide,by decide,by decide,by decide,by decide,by decide,by decide,by decide,by decide,?_⟩)
  have q:=eX (a:=mixF ns 4) (b:=8) (by decide);refine aY (gr (l:=[3,3,3,2,5,8,60,10^9].map m.fmod) q.1 q.2) ?_;dsimp only[aG,aI,dy,aH];refine g.qr<|k _ (Kr ?_);obtain⟨a,T,p⟩:=Ql.mp<|get_mem (l:=[3,3,3,2,5,8,60,10^9].map m.fmod) ((KV q.1).mpr q.2);refine QP ?_<|Int.le_of_eq p;exact(eX<|(by decide:∀a∈ [(3:Int),3,3,2,5,8,60,10^9],0<a) a T).1
theorem xd(e:Env1 C G1 mg mb){ns:List Int}(h:ns.length<=63)(k:∀x y:Nat,1<=x/\x<=8->1<=y/\y<=8->Q (.tup [.int x,.int y]) Jc):aQ (aO C (n+2)) "_law_sides" [(.scr ns,b)] Q X:=by
 refine e.fn f__law_sides (bu 28 rfl) rfl λl c N PX g=> ?_;dsimp only[f__law_sides];dsimp only[aZ,ch,bt];refine bk ?_
 (dsimp only[aP,flags,aC,aG,aU,aE,aI,aT,aN,aH,br,aD,aF,Qa,aJ,aB,aA,aK,gJ,bB];refine⟨rfl,?_⟩)
 refine g.hc<|eV e h ?_;dsimp only[aA,bv,bA,aH,aL,Qa,aM,aB];generalize mixF ns 5=m;have fin:∀x y:Nat,(1<=x/\x<=8)->(1<=y/\y<=8)->dwss G1 l c (f__law_sides.b.drop 4) (Nb "_law_script" b (.scr ns)<|Nb "_law_number" Jc (.int m)<|Nb "_law_high" Jc (.int x)<|Nb "_law_wide" Jc (.int y)<|[]) N PX:=λx y hx W=>by
  dsimp only[f__law_sides,Yd];refine cp ?_
  (dsimp only[aX,bw,ej,deq,aN,bq,aD,aF,Qa,aB,aA,aK,bv,eR,cB,cj];refine⟨by decide,by decide,by decide,⟨rfl,rfl⟩,?_⟩)
  refine cE (λi=> ?_) λi=> ?_
  ·obtain⟨z,G,U,P⟩:=kD 1 (m.fdiv 1152) 8 (by decide);refine dt rfl ?_
   (dsimp only[aR,bq,aN,aD,aF,Qa,aB,aA,aK,bv,eR,cB,bH,fsts,dnew,aC,aG,aV,aU,aE,aI,aW,aT,bS,dtup,br,dy];refine⟨by decide,by decide,by decide,by decide,by decide,by decide,by decide,by decide,by decide,by decide,by decide,by decide,?_⟩)
   refine aY (qX _ _ _) ?_;have G:(1:Int)+(m.fdiv 1152).fmod 8=(z:Nat):=G;rw[G]
   induction decide ((m.fdiv 576).fmod 2=0) with
   |true=>
    dsimp only[aA,b6,tgl,bC,cM,bD,cJ,aH,bA,f6,aL,Qa,aB,bJ];refine ct ?_;refine bM ?_
    (dsimp only[bS,fsts,dtup,aC,aG,aV,aU,aE,aI,aW,aT,aD,aF,Qa,aA,aB,aK,bv,br,aH];refine⟨by decide,?_⟩)
    exact g.qr<|k 1 z ⟨by decide,by decide⟩ ⟨U,Wg P⟩
   |false=>
    dsimp only[aB,b6,tgl,bC,cM,bD,cJ,aA,aH,bA,f6,aL,Qa,bJ];refine ct ?_;refine bM ?_
    (dsimp only[bS,fsts,dtup,aC,aG,aV,aU,aE,aI,aW,aT,aD,aF,Qa,aA,aB,aK,bv,br,aH];refine⟨by decide,?_⟩)
    exact g.qr<|k z 1 ⟨U,Wg P⟩ ⟨by decide,by decide⟩
  ·refine ct ?_;refine bM ?_
   (dsimp only[bS,fsts,dtup,aC,aG,aV,aU,aE,aI,aW,aT,aD,aF,Qa,aA,aB,aK,bv,br,aH];refine⟨by decide,?_⟩)
   exact g.qr<|k x y hx W
 obtain⟨x,ex,M,E⟩:=kD 2 (mixF ns 0) 3 (by decide);obtain⟨y,s,R,f⟩:=kD 2 (mixF ns 1) 3 (by decide);refine bk ?_
 (dsimp only[bq,aN,aP,flags,aC,aG,aU,aE,aI,aT,aH,br,aD,aF,Qa,aJ,aB,aA,aK,gJ,bB];refine⟨rfl,?_⟩)
 refine g.hc<|eV e h ?_
 (dsimp only[cB,dy,bA,aH,aL,Qa,aM,aB,aA];refine⟨by decide,?_⟩)
 refine bk ?_
 (dsimp only[bq,aN,aP,flags,aC,aG,aU,aE,aI,aT,aH,br,aD,aF,Qa,aJ,aB,aA,aK,gJ,bB];refine⟨rfl,?_⟩)
 refine g.hc<|eV e h ?_
 (dsimp only[cB,dy,bA,aH,aL,Qa,aM,aA,aB];refine⟨by decide,?_⟩)
 rw[show(2:Int)+(mixF ns 0).fmod 3=(x:Nat) from ex,show(2:Int)+(mixF ns 1).fmod 3=(y:Nat) from s];have hx:1<=x/\x<=8:=⟨Qv (by decide) M,Qv (Kv E)<|by decide⟩
 have W:1<=y/\y<=8:=⟨Qv (by decide) R,Qv (Kv f)<|by decide⟩
 refine cp ?_
 (dsimp only[aX,bw,ej,deq,aN,bq,aD,aF,Qa,aB,aA,aK,bv,cB,cj];refine⟨by decide,⟨rfl,rfl⟩,?_⟩)
 refine cE (λi=> ?_) λi=> ?_
 ·obtain⟨u,L,F,o⟩:=kD 2 (x:Int) 2 (by decide);obtain⟨v,Y,J,r⟩:=kD 2 (y:Int) 2 (by decide);refine dt rfl ?_
  (dsimp only[aR,bq,aN,aD,aF,Qa,aB,aA,aK,bv,eR,cB,bH,fsts,dnew,aC,aG,aV,aU,aE,aI,aW,aT,bS,dtup,br,dy];refine⟨by decide,by decide,by decide,by decide,by decide,by decide,by decide,by decide,?_⟩)
  refine aY (qX _ _ _) ?_;rw[show(2:Int)+(x:Int).fmod 2=(u:Nat) from L,show(2:Int)+(y:Int).fmod 2=(v:Nat) from Y]
  induction decide ((m.fdiv 9).fmod 2=0) with
  |true=>
   dsimp only[aA,b6,tgl,bC,cM,bD,cJ,aH,bA,f6,aL,Qa,aB,bJ];refine ct ?_;exact fin 5 v ⟨by decide,by decide⟩ ⟨Qv (by decide) J,Qv (Kv r)<|by decide⟩
  |false=>
   dsimp only[aB,b6,tgl,bC,cM,bD,cJ,aA,aH,bA,f6,aL,Qa,bJ];refine ct ?_;exact fin u 5 ⟨Qv (by decide) F,Qv (Kv o)<|by decide⟩ ⟨by decide,by decide⟩
 ·refine ct ?_;exact fin x y hx W
theorem wC(e:Env1 C G1 mg mb){ns:List Int}(s:ns.length<=63)(k:∀t h w,Rect t h w->NN t->Q (dT t) Jc):aQ (aO C (n+4)) "_law_drawn" [(.scr ns,b)] Q X:=by
 refine e.fn fj (bu 30 rfl) rfl λl f P PX g=> ?_;dsimp only[fj];dsimp only[aZ,ch,bt];refine dt rfl ?_
 (dsimp only[aP,flags,aC,aG,aU,aE,aI,aT,aD,aF,Qa,aJ,aB,aA,aK,gJ,aH,br,bB];refine⟨rfl,?_⟩)
 refine g.hc (xd e s λh w z u=> ?_);have U:=z.2;have d:=u.2;dsimp only[aA,b6,tgl,bC,cM,bD,cJ,aH,bA,f6,aL,Qa,aM,aB,bJ];refine bk ?_
 (dsimp only[bH,fsts,dnew,aE,aI,aW,aT,bA,aH,aL,Qa,aM,aB,aA];refine⟨by decide,?_⟩)
 refine dG rfl ?_;dsimp only[fsts,aC,aG,aU,aE,aI,aT,aD,aF,Qa,aJ,aB,aA,aK,bv,br,bA,iZ,iP];refine⟨⟨by exact zim _,by exact zip' U⟩,?_⟩;refine eJ (λi L=>∃v,L=(Nb "_law_script" b (.scr ns)<|Nb "_law_high" Jc (.int h)<|Nb "_law_wide" Jc (.int w)<|Nb "_law_table" Jc (dT<|hcT ns i w)<|No "_law_row" v<|No "_law_number" Jb<|[])) ⟨_,rfl⟩ ?_ ?_
 ·rintro j L H ⟨v,rfl⟩ K m;dsimp only[b5,aL,Qa,aM,aB,aA,bJ];refine iM ?_
  (dsimp only[aF,Qa,aJ,aB,aA,aK,dW,lg,aL,aM];refine⟨trivial,?_⟩)
  refine bV rfl ?_;dsimp only[fsts,aC,aG,aU,aE,aI,aT,aD,aF,Qa,aJ,aB,aA,aK,bv,br,iZ,iP];refine⟨⟨by exact zim _,by exact zip' d⟩,ec (λ(c:Nat)=> .int (hcF ns<|8+(w:Int)*j+c)) (λc Z K k=> ?_) ?_⟩
  ·dsimp only[bp,cA,b5,aM,Qa,aL,aB,aA,bJ];dsimp only[elD]
   (dsimp only[aP,flags,aC,aG,aU,aE,aI,aT,bq,aD,aJ,Qa,aF,aB,aA,aK,bv,k7,aN,dy,aH,br,gJ,bB];refine⟨rfl,?_⟩)
   refine⟨.inl<|by exact zb1 d rfl,?_⟩;exact g.hc<|BM e s k
  ·refine⟨rfl,rfl,?_,m _ ⟨Ja (.int j,Jc),?_⟩⟩
   ·rw[Qd,hcT,Qd,QB];unfold lim;exact zll H<|zb2 U rfl
   ·rw[s6];rfl
 ·rintro L ⟨v,rfl⟩;refine f7 ?_;have R:Rect (hcT ns h w) h w:=Rect.range _ z.1 U u.1 d;have N:=zH ns h w;generalize hcT ns h w=t at R N ⊢;refine bk ?_
  (dsimp only[aP,flags,aC,aG,aU,aE,aI,aT,aN,aH,br,aD,aF,Qa,aJ,aB,aA,aK,gJ,bB];refine⟨rfl,?_⟩)
  refine g.hc<|eV e s ?_;dsimp only[aA,bv,bA,aH,aL,Qa,aM,aB];refine cp ?_
  (dsimp only[aX,bw,aN,bq,aD,aF,Qa,aJ,aA,aB,aK,bv,cB,jU];refine⟨by decide,?_⟩)
  refine cE (λE=> ?_) λE=> ?_
  ·obtain⟨i,D,V⟩:=mc (a:=mixF ns 77) (b:=h) z.1;obtain⟨j,y,H⟩:=mc (a:=mixF ns 78) (b:=w) u.1;refine zN R (ki:=(i:Int)) (kj:=(j:Int)) (i:=i) (j:=j) (v:=1+((mixF ns 79).fdiv 4).fmod 2) rfl (eI V) (eI H) (λQ q=> ?_) (λQ X q=> ?_) (λQ X q=> ?_) ?_
   ·exact⟨by decide,by decide,by decide,rfl,q⟩
   ·(dsimp only[bq,aD,aF,Qa,aJ,aB,aA,aK,bv,aP,flags,aC,aG,aU,aE,aI,aT,aN,aH,br,gJ,bB];refine⟨rfl,?_⟩)
    refine g.hc<|eV e s ?_;dsimp only[cB];exact⟨by exact Int.ne_of_gt<|Kf.mpr z.1,by rw[D];exact q⟩
   ·(dsimp only[bq,aD,aF,Qa,aJ,aB,aA,aK,bv,aP,flags,aC,aG,aU,aE,aI,aT,aN,aH,br,gJ,bB];refine⟨rfl,?_⟩)
    refine g.hc<|eV e s ?_;dsimp only[cB];exact⟨by exact Int.ne_of_gt<|Kf.mpr u.1,by rw[y];exact q⟩
   ·dsimp only[aL,Qa,aM,aB,aA];refine ct ?_;refine cL ?_;dsimp only[b9,aL,Qa,aM,aB,aA,aF,aJ,aK,bL];refine g.qr<|k _ h w (R.set V) ((jy<|R.set V).mpr λa c T Z=> ?_);rw[tA R V H]
    split
    ·exact YA (by decide) (eX<|by decide).1
    ·exact(jy R).mp N a c T Z
  ·refine ct ?_;refine cL ?_;dsimp only[b9,aL,Qa,aM,aB,aA,aF,aJ,aK,bL];exact g.qr<|k t h w R N
end
section
variable{t:List (List Int)}{h w:Nat}{wd bd:Int}{P:Pl->Bool}
inductive EdOK(t:List (List Int))(h w:Nat)(P:Pl->Bool)(p:Pl)(v:Int)(T:List (List Int)):Prop
 |mk (x:Pl->Int) (e:T=tabV (cT t h w P) x h w) (g:Good (psF (cT t h w P) h w) h w (RT t h w P) (CT t h w P) (.tab x)) (ev:x p=v):EdOK t h w P p v T
theorem qG(R:Rect t h w)(N:NN t)(D:p∈PS h w P)(hi:Bool):EdOK t h w P p (enT t h w P hi p p) (edT t h w P hi p):=by
 have V:=vokT R N P;have G:Good (psF (cT t h w P) h w) h w (RT t h w P) (CT t h w P) (outV (cT t h w P) (rsF t) (csF t w) h w):=mH (iL V.R) _ _ _ _ (fill0 V)<|QI _
 induction e:outV (cT t h w P) (rsF t) (csF t w) h w with
 |no f Y=>
  rw[e] at G;have M:=goodT R N P;rw[<-oE t] at M;exact(uo (iL V.R) G M).elim
 |tab x=>
  rw[e] at G;refine⟨endF (psF (cT t h w P) h w) (r1F (cT t h w P)<|rsF t) hi p x,by rw[edT,e];rfl,?_,?_⟩
  ·rw[oE] at G ⊢;exact(ml (szT R P) D _ _ G<|QI _).1
  ·rw[oE] at G ⊢;obtain⟨g,c⟩:=ml (hi:=hi) (szT R P) D _ _ G<|QI _;obtain⟨k,U⟩:=ry R N D hi;have a:=my (szT R P) g D c k;have b:=my (szT R P) k D U g
   induction hi with
   |false=>exact Wz a b
   |true=>exact Wz b a
theorem EdOK.cell{p:Pl}(x:EdOK t h w P p v T)(D:p∈PS h w P):Vl.Internal.cell T p.1 p.2=v:=by
 obtain⟨x,rfl,g,e⟩:=x;obtain⟨⟨o,r⟩,H⟩:=PS_mem.mp D;rw[jG o r,xG o r];show(cond (P p) Jb<|Ja _).getD _=_;rw[H];exact e
theorem EdOK.rect(x:EdOK t h w P p v T)(R:Rect t h w):Rect T h w:=by
 obtain⟨x,rfl,g,e⟩:=x;exact Rect.range _ R.h1 R.h8 R.w1 R.w8
theorem Bp{a b wd:Int}(d:1<=wd)(z:wd<=b-a):wd<=(if a-b<0 then-(a-b) else a-b):=by
 have e: -(a-b)=b-a:=Int.neg_sub a b;have l:a-b<0:=by
  have: -(b-a)=a-b:=Int.neg_sub b a;rw[<-this];exact Int.neg_neg_of_pos<|Ky (Ky (by decide) d) z
 rw[Y8 l,e];exact z
theorem yM(T:a<h)(R:b<w):hidF (PS h w P) a b=P (a,b):=qE (p:=(a,b)) ⟨T,R⟩
theorem sx(t:List (List Int))(h w:Nat)(P:Pl->Bool):cellsF t (hidF (PS h w P)) h w=cT t h w P:=
 Qj λa T=>Qj λb R=>by
  show cond (hidF (PS h w P) a b) _ _=cond (P (a,b)) _ _;rw[yM (Qi.mp T) (Qi.mp R)]
theorem vN(t:List (List Int))(h w:Nat)(P:Pl->Bool):viewF t (hidF (PS h w P)) h w= .tup [dC (cT t h w P),dI (rsF t),dI (csF t w)]:=by
 show D.tup [dC (cellsF t (hidF<|PS h w P) h w),_,_]=_;rw[sx]
theorem yt(m:Nat)(l:List Pl):D.okds (m+1) (l.map dP)=Jc:=b7 dP (λp=>by show D.okds m [.int _,.int _]=Jc;rw[cz,cz,eO,eO];rfl) _
theorem gM(l:List Pl):D.okd 40 (.list (l.map dP))=Jc:=by rw[c9];exact yt 38 _
end
theorem v7(t:List (List Int))(h w:Nat)(P:Pl->Bool)(p:Pl):dsub (prD t h w P p) (.int 0)=Ja (dP p):=rfl
theorem qW(t:List (List Int))(h w:Nat)(P:Pl->Bool)(p:Pl):dsub (prD t h w P p) (.int 1)=Ja (dT (edT t h w P Jd p)):=rfl
section
variable{C:Cx}{mg mb:Jq->Option Jf}{n:Nat}{Q:D->Bool->Prop}{X:DX}{t:List (List Int)}{h w:Nat}{wd bd:Int}{P:Pl->Bool}
theorem xL(e:Env1 C G1 mg mb)(R:Rect t h w)(N:NN t)(x:EdOK t h w P p v T)(k:Q (.bool Jc) Jc):
  aQ (aO C<|n+2) "_law_has" [(dT T,b),(.tup [dC (cT t h w P),dI<|rsF t,dI (csF t w)],c)] Q X:=by
 obtain⟨x,rfl,g,o0⟩:=x;have V:=vokT R N P;obtain⟨E,Y,J⟩:=wH V g;exact tP e (lA V.R) (vD V g.1) V.R E Y J k
theorem zF(e:Env1 C G1 mg mb)(R:Rect t h w)(N:NN t)(s:Safe t h w wd P)(H:1<=wd)(D:p∈PS h w P){d V W Y:Bool}(k:Q (.bool Jc) Jc):
  aQ (aO C<|n+3) "_law_pair" [(dT t,d),(.list<|(PS h w P).map dP,V),(prD t h w P p,W),(.int wd,Y)] Q X:=by
 refine e.fn fT (bu 40 rfl) rfl λl u y PX g=> ?_;dsimp only[fT];have E:=qG R N D Jd;have B:=qG R N D Jc;obtain⟨o,r⟩:=(PS_mem.mp D).1;have z:wd<=enT t h w P Jc p p-enT t h w P Jd p p:=KG.mp<|of_decide_eq_false (s p D);rw[<-E.cell D,<-B.cell D] at z;have c:=E.rect R;have b:=B.rect R;unfold prD;dsimp only[aZ,ch,bt];refine cp ?_
 (dsimp only[cq,bw,aA,aX,g8,aD,aF,Qa,aJ,aB,aK,aR,aN,fC,cV,eD,deq,bl,ce,cj,aC,aE,ca,lT,aV,aW,cN,bW,c8,lm,h9,cy];refine⟨rfl,rfl,⟨rfl,rfl⟩,?_⟩)
 rw[show(!decide (((0+1+1+1:Nat):Int)=3))=Jd from rfl];dsimp only[aB];rw[np];refine⟨⟨rfl,b7 dP (λp=>rfl) _⟩,?_⟩;rw[nG,Y4 D];dsimp only[cy,aB];refine ct ?_;refine bk ?_
 (dsimp only[aP,flags,aC,aG,aU,aE,aI,aT,aD,aF,Qa,aJ,aB,aA,aK,bj,aS,bB,cb,dl,bI];refine⟨rfl,?_⟩)
 refine g.hc<|yJ e R ?_;rw[vN];dsimp only[aA,b6,tgl,bC,bL,bD,bK,aB,bA,aH,aL,Qa,aM];refine cp ?_
 (dsimp only[cq,bw,aA,bW,aP,flags,aC,aG,aE,aI,aD,aF,Qa,aJ,aB,aK,b6,tgl,bC,bL,bD,bK,aS,aR,aN,kA,cV,bj,li];refine⟨rfl,?_⟩)
 refine g.hc<|xL e R N E ?_
 (dsimp only[bw,cy,aB];refine⟨rfl,?_⟩)
 refine g.hc<|xL e R N B ?_;dsimp only[bw,cy,aB];refine ct ?_;refine dt rfl ?_;dsimp only[aR,aN,aD,aF,Qa,aJ,aB,aA,aK,b6,tgl,bC,bL,bD,bK,fC,cV];rw[xN];unfold dP;dsimp only[aH,bA,f6,aL,Qa,aM,aB,aA,bJ];refine bM ?_
 (dsimp only[aX,aH,aD,aF,Qa,aB,aA,aK,bl,yl,oL,aC,aE,ca,bq,aR,aN,b6,tgl,bC,gO,cM,bD,cJ,bL,bK,kA,cV,bj,li];refine⟨rfl,?_⟩)
 refine aY (gL c o) ?_;dsimp only[bj];refine aY (gy c o r) ?_;dsimp only[bv];refine aY (gL b o) ?_;dsimp only[bj];refine aY (gy b o r) ?_;dsimp only[gX,sS];rw[Y4 (Bp H z)];exact g.qr k
theorem tW(e:Env1 C G1 mg mb)(R:Rect t h w){d b:Bool}(k:Q (.list ((PS h w (smT t bd)).map dP)) Jc):aQ (aO C (n+2)) "_law_small" [(dT t,d),(.int bd,b)] Q X:=by
 refine e.fn fi (bu 36 rfl) rfl λc u y PX g=> ?_;dsimp only[fi];dsimp only[aZ,ch,bt];refine bM ?_;refine cF rfl ?_
 (dsimp only[fsts,aC,aG,aU,aE,aI,aT,ck,aP,flags,aD,aF,Qa,aB,aA,aK,bj,aS,bB,cb,bI];refine⟨rfl,?_⟩)
 refine g.hc<|ux e R D.int ?_;dsimp only[cw,aA,bj,br];refine cg dP dP (smT t bd) (λp U=> ?_) ?_
 ·obtain⟨o,r⟩:=allF_mem.mp U;dsimp only[bp,cA,b5,aM,Qa,aL,aB,aA,bJ];refine⟨λT Y=> ?_,λo0 K k=> ?_⟩
  ·dsimp only[tstD];dsimp only[jp,bw,aD,aJ,Qa,aF,aA,aB,aK,aR,aN];refine aY (mT p) ?_;refine aY (gL R o) ?_;refine aY (mJ p) ?_;refine aY (gy R o r) ?_;dsimp only[lf];have Y:T (decide (1<=cell t p.1 p.2)&&decide (cell t p.1 p.2<=bd)):=Y;refine cE (λN=> ?_) λN=> ?_
   ·rw[Y4 N] at Y;exact Y
   ·rw[Y5 N] at Y;exact Y
  ·dsimp only[elD];dsimp only[aD,aJ,Qa,aF,aB,aA,aK];exact k
 ·exact g.qr k
theorem ji(e:Env1 C G1 mg mb)(R:Rect t h w){F:List Pl}{g:Pl->Bool}(J:F=PS h w g)(k:Q (.bool Jc) Jc):aQ (aO C (n+2)) "_law_places_told" [(.list (F.map dP),b),(dT t,V)] Q X:=by
 refine e.fn cX (bu 39 rfl) rfl λl f N PX z=> ?_;dsimp only[cX];dsimp only[aZ,ch,bt];refine cp ?_
 (dsimp only[cq,bw,aA,aX,eD,deq,aD,aF,Qa,aJ,aB,aK,bW,c8,lh,h9,cy];refine⟨rfl,?_⟩)
 refine cF rfl ?_
 (dsimp only[fsts,aC,aG,aU,aE,aI,aT,ck,aP,flags,aD,aF,Qa,aJ,aB,aA,aK,bj,aS,bB,cb,bI];refine⟨rfl,?_⟩)
 refine z.hc<|ux e R D.int ?_;dsimp only[cw,aA,bj,br];refine cg dP dP g (λq o=> ?_) ?_
 ·dsimp only[bp,cA,b5,aM,Qa,aL,aA,aB,bJ];refine⟨λT Y=> ?_,λo0 K k=> ?_⟩
  ·dsimp only[tstD];dsimp only[aX,bw,o8,aD,aJ,Qa,aF,aB,aA,aK];rw[np];refine⟨⟨rfl,b7 dP (λp=>rfl) _⟩,?_⟩;rw[J,qE (allF_mem.mp o)];exact Y
  ·dsimp only[elD];dsimp only[aD,aJ,Qa,aF,aA,aB,aK];exact k
 rw[show(allF h w).filter g=F from J.symm];refine⟨⟨gM F,gM F⟩,?_⟩;rw[cQ];dsimp only[cy,aB];refine ct ?_;refine dG rfl ?_;dsimp only[fsts,aC,aG,aU,aE,aI,aT,ck,aD,aF,Qa,aJ,aB,aA,aK,bj,bB,fM,fH,fG,fK,bL,bK,fF,gn,cP,fN,fJ,cw];refine cK dP (λo0 L=>∃u c Z,L=(Nb "_law_found" c (.list<|F.map dP)<|Nb "_law_table" Z (dT t)<|No "_law_place" u<|[])) _ _ ⟨_,_,_,rfl⟩ ?_ ?_
 ·rintro j p L H ⟨u,c,Z,rfl⟩ s m;unfold dP;dsimp only[gO,bC,cM,bD,cJ,b5,aL,Qa,aM,aA,aB,bJ];refine cp ?_
  (dsimp only[cq,bw,aA,bW,aP,flags,aC,aG,aE,aI,aR,aN,aD,aF,Qa,aB,aK,b6,tgl,bC,cM,bD,cJ,gK,cV,bv,aH,eE,c8,lm,h9,cy];refine⟨rfl,rfl,?_⟩)
  refine z.hc<|mX e ?_
  (dsimp only[bw,cy,aB];refine⟨rfl,?_⟩)
  refine z.hc<|mX e ?_;dsimp only[bw,cy,aB];refine ct ?_;exact m _ ⟨_,_,_,rfl⟩
 ·rintro L ⟨u,c,Z,rfl⟩;refine f7 ?_;refine bM ?_;dsimp only[cD,aH];exact z.qr k
end
theorem yQ{L:Type}(g:L->Bool)(l:List L):(l.map g).any id=l.any g:=by rw[List.any_map];rfl
theorem BK(x y z u:String)(a b c d:D)(f:Bool)(L:DRho):dK (.tup [x,y,z,u]) (.tup [a,b,c,d]) f L=Ja ((((L.put x (a,f)).put y (b,f)).put z (c,f)).put u (d,f)):=rfl
theorem tg0n(d:D):tg0 d Jb=Jb:=by unfold tg0;cases d.atom<;>rfl
theorem iA{q:Type}{el:DRho->DQ->Prop}{K:List D->Tag->Prop}(g f:q->D):
  ∀ (l:List q) (c:List D) (t:Tag),(∀a∈l,∀K:DQ,(∀t,K (f a) t)->dOR (λH=>el H K) (bp tg (g a) L))->(∀t,K (c++l.map f) t)->dcomp tg L s (λo0 K=>K Jc) el (l.map g) c t K
 |[]=>λc t o0 k=>by rw[Wj,QH] at k;exact k t
 |a::l=>λc t U k=>by
  obtain⟨H,e,w⟩:=fV (U a (.head _) (λd u=>dcomp tg L s (λo0 K=>K Jc) el (l.map g) (c++[d]) (tj t (tout tg.names s u)) K)
   λu=>iA g f l (c++[f a]) _ (λb R=>U b (.tail _ R)) (by rw[Kn];exact k))
  show dOR _ (bp tg (g a) L);rw[e];exact w
def papL(t:List (List Int))(h w:Nat)(wd bd:Int)(P:Pl->Bool):List (List D):=[(PS h w<|smT t bd).map dP,(othF t h w bd P).map dP,(PS h w P).map (prD t h w P),(othF t h w bd P).map (rdD t h w wd bd P)]
section
variable{t:List (List Int)}{h w:Nat}{wd bd:Int}{P:Pl->Bool}
theorem zZ(t:List (List Int))(h w:Nat)(bd:Int)(P:Pl->Bool):othF t h w bd P=PS h w (λp=>P p&& !smT t bd p):=by
 rw[othF,PS,PS,Wl];exact WG λp o0=>Bool.and_comm _ _
theorem oth_mem:p∈othF t h w bd P↔p∈PS h w P/\smT t bd p=Jd:=by
 rw[othF,Qm,QS]
structure HidOK(t:List (List Int))(h w:Nat)(wd bd:Int)(P:Pl->Bool):Prop where
 f:Full t h w wd bd P
 e:PS h w (smT t bd)=[]->PS h w P=[]
theorem v9(R:Rect t h w)(N:NN t){d:D}(e:hideF t h w wd bd=Ja d):∃P,d=papD t h w wd bd P/\HidOK t h w wd bd P:=by
 unfold hideF at e;by_cases E:PS h w (smT t bd)=[]
 ·rw[Y4 E] at e;obtain rfl:=sj e;have i:PS h w (λo0=>Jd)=[]:=Yk.mpr λo0 o0=>QF;refine⟨λo0=>Jd,?_,⟨λp K=>by rw[i] at K;exact bQ K,λp K s=> ?_⟩,λo0=>i⟩
  ·rw[papD,E,i,othF,i];rfl
  ·have:p∈PS h w (smT t bd):=PS_mem.mpr ⟨K,s⟩;rw[E] at this;exact bQ this
 ·rw[Y5 E] at e
  induction z:(peel t h w wd bd λo0=>Jc).1 with
  |none=>rw[z] at e;exact ns e
  |some S=>
   rw[z] at e;obtain⟨a,b,c⟩:=(jZ R<|λo0=>Jc).fin z;obtain⟨f,o0,o0⟩:=tU R N (PS h w S) S ⟨a,λp o0 s=>c p rfl s⟩;exact⟨finP t h w wd bd S,(sj e).symm,f,λq=>absurd q E⟩
theorem AZ(F:HidOK t h w wd bd P){p:Pl}(r:p.1<h/\p.2<w):(decide (p∈PS h w (smT t bd))||decide (p∈othF t h w bd P))=P p:=by
 induction q:P p with
 |true=>
  induction s:smT t bd p with
  |true=>rw[Y4 (PS_mem.mpr ⟨r,s⟩)];rfl
  |false=>rw[Y4 (oth_mem.mpr ⟨PS_mem.mpr ⟨r,q⟩,s⟩),Bool.or_true]
 |false=>
  rw[Y5 λz=>by rw[F.f.all p r (PS_mem.mp z).2] at q;exact tf q,Y5 λz=>by rw[(PS_mem.mp (oth_mem.mp z).1).2] at q;exact tf q];rfl
theorem nM(m:Nat)(p:Pl):D.okd (m+1) (dP p)=Jc:=by show D.okds m [.int _,.int _]=Jc;rw[cz,cz,eO,eO];rfl
theorem mR(m:Nat)(l:List Nat):D.okd (m+1) (dNs l)=Jc:=by rw[c9];exact b7 _ (λo0=>eO m _) l
theorem nZ{a b c:D}(T:a.okd m=Jc)(R:b.okd m=Jc)(Z:c.okd m=Jc):D.okd (m+1) (.tup [a,b,c])=Jc:=by rw[rA,cz,cz,cz,T,R,Z];rfl
theorem wg(ps:List Pl)(h w:Nat)(p:Pl)(x:Pl->Int)(m:Nat):D.okd (m+2) (lowD ps h w p x)=Jc:=by
 unfold lowD
 induction decide (x p>0) with
 |true=>exact nZ (eO _ _) (mR m _)<|mR m _
 |false=>exact nZ (eO _ _) rfl rfl
theorem yK(t:List (List Int))(h w:Nat)(wd bd:Int)(P:Pl->Bool)(m:Nat)(p:Pl):D.okd (m+5) (rdD t h w wd bd P p)=Jc:=by
 rw[rdD,rA,cz,cz,nM<|m+3,uK,Yl,WP,dRoad,c9];exact b7 _ (λx=>nZ (nM (m+1) _) (wg _ _ _ _ _ m)<|nZ (eO _ _) (mR m _) (mR m _)) _
theorem Ar(t:List (List Int))(h w:Nat)(P:Pl->Bool)(m:Nat)(p:Pl):D.okd (m+3) (prD t h w P p)=Jc:=nZ (nM (m+1) _) (kZ m _)<|kZ m _
theorem lj(t:List (List Int))(h w:Nat)(wd bd:Int)(P:Pl->Bool):D.okds 39 ((papL t h w wd bd P).map .list)=Jc:=by
 show D.okds 39 [.list _,.list _,.list _,.list _]=Jc;rw[cz,cz,cz,cz,c9,c9,c9,c9,b7 _<|nM 37,b7 _<|nM 37,b7 _<|Ar t h w P 35,b7 _ (yK t h w wd bd P 33)];rfl
theorem j5(t:List (List Int))(h w:Nat)(wd bd:Int)(P:Pl->Bool):D.okd 40 (papD t h w wd bd P)=Jc:=lj t h w wd bd P
end
section
variable{C:Cx}{mg mb:Jq->Option Jf}{n:Nat}{Q:D->Bool->Prop}{X:DX}{t:List (List Int)}{h w:Nat}{wd bd:Int}{P:Pl->Bool}
theorem vT(e:Env1 C G1 mg mb)(R:Rect t h w)(N:NN t)(H:1<=wd)(F:HidOK t h w wd bd P){b V W E:Bool}(k:Q (.bool Jc) Jc):
  aQ (aO C<|n+4) "_law_right" [(dT t,b),(.int bd,V),(.int wd,W),(papD t h w wd bd P,E)] Q X:=by
 refine e.fn f__law_right (bu 41 rfl) rfl λM c i PX g=> ?_;dsimp only[f__law_right];unfold papD;dsimp only[aZ,ch,bt];refine cp ?_
 (dsimp only[cq,bw,aA,bW,bl,hJ,aC,aE,ca,aX,eD,deq,aN,ce,cj,aD,aF,Qa,aJ,aB,aK,lT,aV,aW,cN,c8,lm,h9,cy];refine⟨rfl,rfl,⟨rfl,rfl⟩,?_⟩)
 rw[show(!decide (((0+1+1+1+1:Nat):Int)=4))=Jd from rfl]
 (dsimp only[aB];refine⟨rfl,?_⟩)
 refine bV rfl ?_;dsimp only[fsts,dW,aC,aG,aU,aE,aI,aT,ck,aD,aF,Qa,aJ,aB,aA,aK,b6,tgl,bC,bL,bD,bK,bB,zM];refine bE (l:=papL t h w wd bd P) D.list (λo0=> .bool Jc) (λl r K k=> ?_) ?_
 ·dsimp only[bp,cA,b5,aM,Qa,aL,aB,aA,bJ];dsimp only[elD]
  (dsimp only[c8,aD,aJ,Qa,aF,aB,aA,aK,lh,h9];refine⟨rfl,?_⟩)
  exact k
 refine jt (c4 _ _) ?_;rw[show((papL t h w wd bd P).map λo0=>Jc).all id=Jc from rfl];dsimp only[cy,aB];refine ct ?_;refine dt rfl ?_;dsimp only[aD,aF,Qa,aJ,aB,aA,aK,b6,tgl,bC,bL,bD,bK,aS,fM,fH,fG,fF,cM,cJ,fK,gO,gn,cP,fN,fJ];rw[BK];dsimp only[aL,Qa,aM,aB,aA,bJ];refine cp ?_
 (dsimp only[cq,bw,aA,bW,aP,flags,aC,aG,aE,aI,aD,aF,Qa,aJ,aB,aK,bj,aS];refine⟨rfl,?_⟩)
 refine g.hc<|ji e R rfl ?_
 (dsimp only[bw,cy,aB];refine⟨rfl,?_⟩)
 refine g.hc<|ji e R (zZ t h w bd P) ?_;dsimp only[bw,cy,aB];refine ct ?_;refine cp ?_
 (dsimp only[cq,bw,aA,bl,zz,aC,aE,ca,aX,eD,deq,aP,flags,aG,aI,aD,aF,Qa,aJ,aB,aK,bv,aH,bj,aS];refine⟨rfl,?_⟩)
 refine g.hc<|tW e R ?_;refine⟨⟨gM _,gM _⟩,?_⟩;rw[cQ]
 (dsimp only[cy,aB];refine⟨rfl,?_⟩)
 refine bV rfl ?_;dsimp only[fsts,dW,aC,aG,aU,aE,aI,aT,ck,aD,aF,Qa,aJ,aB,aA,aK,bj,bB,cw];refine bE dP (λo0=> .bool Jd) (λp U K k=> ?_) ?_
 ·dsimp only[bp,cA,b5,aM,Qa,aL,aB,aA,bJ];dsimp only[elD];dsimp only[aX,o8,aD,aJ,Qa,aF,aB,aA,aK];rw[np];refine⟨⟨rfl,b7 dP (λp=>rfl) _⟩,?_⟩;obtain⟨d,B⟩:=oth_mem.mp U;rw[qE (PS_mem.mp d).1,B];exact k
 refine jt (c4 _ _) ?_;rw[yQ,show((othF t h w bd P).any λo0=>Jd)=Jd from List.any_eq_false.mpr λo0 o0=>QF];dsimp only[aB];refine ct ?_;refine bk ?_;refine cF rfl ?_
 (dsimp only[fsts,aC,aG,aU,aE,aI,aT,ck,aP,flags,aD,aF,Qa,aJ,aB,aA,aK,bj,aS,bB,cb,bI];refine⟨rfl,?_⟩)
 refine g.hc<|ux e R D.int ?_;dsimp only[cw,aA,bj,br];refine cg dP dP P (λq o=> ?_) ?_
 ·dsimp only[bp,cA,b5,aM,Qa,aL,aB,aA,bJ];refine⟨λT Y=> ?_,λo0 K k=> ?_⟩
  ·dsimp only[tstD];dsimp only[cq,bw,aX,o8,aD,aJ,Qa,aF,aB,aA,aK];rw[np];refine⟨⟨rfl,b7 dP (λp=>rfl) _⟩,?_⟩;rw[nG];have z:=AZ F (allF_mem.mp o)
   induction y:decide (q∈PS h w (smT t bd)) with
   |true=>
    rw[y] at z;rw[<-z] at Y;dsimp only[aA];exact Y
   |false=>
    rw[y] at z;dsimp only[aB];rw[np];refine⟨⟨rfl,b7 dP (λp=>rfl) _⟩,?_⟩;rw[nG];rw[<-z] at Y;exact Y
  ·dsimp only[elD];dsimp only[aD,aJ,Qa,aF,aB,aA,aK];exact k
 dsimp only[bA,aH,aL,Qa,aM,aA,aB];rw[show(allF h w).filter P=PS h w P from rfl];refine cp ?_;dsimp only[cq,bw,aA,c6,aX,eD,deq,bH,fsts,dnew,aE,aI,aW,bq,aD,aF,Qa,aB,aK,bj,ik,cb,dl,bI,tgl,ej];refine bV rfl ?_;dsimp only[fsts,aC,aG,aU,aE,aI,aT,ck,aD,aF,Qa,aB,aA,aK,bj,bB,cw];refine bE (prD t h w P) dP (λp U K k=> ?_) ?_
 ·dsimp only[bp,cA,b5,aM,Qa,aL,aB,aA,bJ];dsimp only[elD];dsimp only[aR,aN,aD,aJ,Qa,aF,aB,aA,aK];refine aY (v7 _ _ _ _ _) ?_;exact k
 refine⟨⟨gM _,gM _⟩,?_⟩;rw[cQ]
 (dsimp only[cy,aB];refine⟨by decide,?_⟩)
 refine⟨⟨gM _,rfl⟩,?_⟩;rw[qH];have fin:dwss G1 M c (f__law_right.b.drop 6) (Nb "_law_table" b (dT t)<|Nb "_law_bound_here" V (.int bd)<|Nb "_law_width_here" W (.int wd)<|Nb "_law_paper" Jd (papD t h w wd bd P)<|Nb "_law_first" Jd (.list<|(PS h w<|smT t bd).map dP)<|Nb "_law_others" Jd (.list<|(othF t h w bd P).map dP)<|Nb "_law_pairs" Jd (.list<|(PS h w P).map (prD t h w P))<|Nb "_law_roads" Jd (.list<|(othF t h w bd P).map (rdD t h w wd bd P))<|Nb "_law_hidden" Jc (.list<|(PS h w P).map dP)<|[]) i PX:=by
  dsimp only[f__law_right,Yd];refine bM ?_
  (dsimp only[bl,hJ,aH,aC,aE,ca];refine⟨rfl,?_⟩)
  refine bV rfl ?_;dsimp only[fsts,dW,aC,aG,aU,aE,aI,aT,ck,aD,aF,Qa,aB,aA,aK,bj,bB,cw];refine bE (prD t h w P) (λo0=> .bool Jc) (λp U K k=> ?_) ?_
  ·dsimp only[bp,cA,b5,aM,Qa,aL,aB,aA,bJ];dsimp only[elD]
   (dsimp only[aP,flags,aC,aG,aU,aE,aI,aT,aD,aJ,Qa,aF,aB,aA,aK,bv,aH,br,bj,aS];refine⟨rfl,?_⟩)
   exact g.hc<|zF e R N F.f.safe H U k
  refine jt (c4 _ _) ?_;rw[iX,show((PS h w P).all λo0=>Jc)=Jc from Qx.mpr λo0 o0=>rfl];exact g.qr k
 refine cE (λf=> ?_) λf=> ?_
 ·have O:othF t h w bd P=[]:=by rw[othF,F.e f];rfl
  rw[show(othF t h w bd P).map dP++(othF t h w bd P).map (rdD t h w wd bd P)=[] from by rw[O];rfl];exact⟨QV _,QV _,⟨rfl,rfl⟩,fin⟩
 ·exact fin
theorem l6(e:Env1 C G1 mg mb)(K:ClsC C cls8)(E:ClsC C cls9)(R:Rect t h w)(N:NN t)(v:1<=bd)(H:1<=wd)
  (T:∀d,hideF t h w wd bd=Ja d->Q d Jc)(k:hideF t h w wd bd=Jb->Q .none Jc):aQ (aO C<|n+9) "_law_told" [(dT t,b),(.int bd,V),(.int wd,W)] Q X:=by
 refine e.fn fQ (bu 42 rfl) rfl λl c y PX g=> ?_;dsimp only[fQ];dsimp only[aZ,ch,bt];refine A2 ⟨rfl,rfl,rfl⟩ ?_;refine bM ?_
 (dsimp only[aP,flags,aC,aG,aU,aE,aI,aT,aD,aF,Qa,aA,aB,aK,bv,aH,br,bj,aS,bB,cb,bI];refine⟨rfl,?_⟩)
 refine g.hc<|zC e K E R N v H (λd q=> ?_) λo=> ?_
 ·dsimp only[aA];rw[tg0n];exact g.qr<|T d q
 ·rw[Y8 (show G1.sub "NotHidden" "NotHidden"=Jc from rfl)];refine bM ?_;dsimp only[dU,aH];exact g.qr<|k o
end
theorem tJ(a b c d:D):dsub (.tup [a,b,c,d]) (.int 2)=Ja c:=rfl
def fzf(t:Tag)(y:String)(v:D)(b:Bool):Bool:=match t with
 |none=>b
 |some x=>cond (hasS x y) (v.atom&&b) b
theorem zv(t:Tag)(y:String)(b:Bool)(v:D)(r:DRho):DRho.frz (Nb y b v r) t=Nb y (fzf t y v b) v (DRho.frz r t):=by
 rcases t with o0|x
 ·rfl
 ·show(y,cond (hasS x y) _ _)::_=(y,Ja (v,cond (hasS x y) _ _))::_
  induction hasS x y with
  |true=>rfl
  |false=>rfl
theorem zD(t:Tag)(y:String)(r:DRho):DRho.frz (No y Jb r) t=No y Jb (DRho.frz r t):=by
 rcases t with o0|x
 ·rfl
 ·show(y,cond (hasS x y) _ _)::_=(y,Jb)::_
  induction hasS x y with
  |true=>rfl
  |false=>rfl
theorem zR(t:Tag):DRho.frz [] t=[]:=by rcases t with _|x<;>rfl
section
variable{G:Gx}{cl cu:DCl}{Δ:DRho}{Q:bR}{X:DSX}{r:List S}
theorem uO{l m:List D}{d:D}(hx:Δ.get x=Ja (.tup l,Jc))(p:place l.length i=Ja j)(T:l[j]? =Ja (.list m))(L:m.length<lim)
  (O:∀ (Q:DQ) X,Q d Jb->dwe G cl e Δ Q X)(k:dwss G cl cu r (Δ.put x (.tup<|l.set j (.list<|m++[d]),Jc)) Q X):dwss G cl cu (.expr (.meth (.sub (.loc x)<|.int i) .append [e])::r) Δ Q X:=by
 refine sM ?_;show dpath G cl (.sub (.loc x)<|.int i) Δ (λx I Z=>drecv .append Z/\dwes G cl [e] Δ (λs=>tjs s=Jb/\dmeth .append (fsts s) Z λB=>dput Δ x I B _) _) _;rw[mD,i3,hx,aK];refine⟨rfl,?_⟩;show isScr (.tup l)=Jd/\dOD _ (dsub (.tup l)<|.int i);refine⟨rfl,aY (v:= .list m) (show(place l.length i).bind (λj=>l[j]?)=_ from by rw[p];exact T) ?_⟩;refine⟨trivial,O _ _ ⟨rfl,L,?_⟩⟩;show dOE _ (Δ.get x);rw[hx,aK];refine aY (v:= .tup (l.set j<|.list (m++[d]))) ?_ k;show(place l.length i).bind (λj=>(l[j]?).bind λx=>Ja<|D.tup (l.set j<|.list (m++[d])))=_;rw[p];show((l[j]?).bind λx=>Ja<|D.tup (l.set j<|.list (m++[d])))=_;rw[T];rfl
theorem vg{l m:List D}(c:G.calm=Jc)(hx:Δ.get x=Ja (.tup l,Jc))(p:place l.length i=Ja j)(T:l[j]? =Ja (.list m))
  (k:hA tg (λΔ K=>dwss G cl cu b Δ K λo0 o0 o0=>False) (donFl (λu=>dwss G cl cu r u Q X) Q) m (Δ.put x (.hole,Jc))):dwss G cl cu (.for_ tg .val [.sub (.loc x) (.int i)] b::r) Δ Q X:=by
 refine wv c ?_;rw[mD,i3,hx,aK];refine⟨rfl,?_⟩;show isScr (.tup l)=Jd/\dOD _ (dsub (.tup l)<|.int i);exact⟨rfl,aY (v:= .list m) (show(place l.length i).bind (λj=>l[j]?)=_ from by rw[p];exact T) k⟩
end
theorem lX{L:Type}{body:DRho->bR->Prop}(g:L->D)(I:DRho->Prop)(q:∀Δ,I Δ->Q .next Δ):∀ (l:List L) (Δ:DRho),I Δ->
  (∀a∈l,∀Δ,I Δ->∀K:bR,(∀H,I H->K .next H)->dOR (λH=>body H K) (dK tg (g a) Jc Δ))->hA tg body Q (l.map g) Δ
 |[]=>λΔ p o0=>q Δ p
 |a::l=>λΔ p h=>h a (.head _) Δ p (donFl (λJ=>hA tg body Q (l.map g) J) Q) λH j=>lX g I q l H j λb R=>h b<|.tail _ R
section
variable{C:Cx}{mg mb:Jq->Option Jf}{n:Nat}{Q:D->Bool->Prop}{X:DX}{t:List (List Int)}{h w:Nat}{wd bd:Int}{P:Pl->Bool}
theorem rect2:Rect [[(1:Int),2],[2,1]] 2 2:=⟨rfl,λr T=>by
 rcases Qt.mp T with rfl|T
 ·rfl
 ·rw[Qk.mp T];rfl,by decide,by decide,by decide,by decide⟩
theorem nn2:NN [[1,2],[2,1]]:=show∀r∈ [[(1:Int),2],[2,1]],∀i∈r,0<=i by decide
theorem l0(e:Env1 C G1 mg mb)(K:ClsC C cls8)(E:ClsC C cls9)(R:Rect t h w)(N:NN t)(H:1<=bd)(I:1<=wd)(O:hideF t h w wd bd=Ja (papD t h w wd bd P)){ns:List Int}{PX:DSX}(F:Gen C (n+9) Q X cl cu y PX)(k:Q (.bool Jc) Jc):
  dwss G1 cl cu (f_law.b.drop 11) (Nb "_law_script" b (.scr ns)<|Nb "_law_table" c (dT t)<|Nb "_law_bound_here" Z (.int bd)<|Nb "_law_width_here" M (.int wd)<|Nb "_law_handed" V (dT t)<|Nb "_law_paper" A (papD t h w wd bd P)<|Nb "_law_kept" s (.list<|(papL t h w wd bd P).map .list)<|Nb "_law_tables" m (.list<|(PS h w P).map λp=>dT<|edT t h w P Jd p)<|No "_law_again" Jb<|No "_law_pair_here" Jb<|[]) y PX:=by
 dsimp only[f_law,Yd];refine bk ?_
 (dsimp only[aP,flags,aC,aG,aU,aE,aI,aT,aD,aF,Qa,aJ,aB,aA,aK,bv,aH,br,bj,aS,bB,cb,bI];refine⟨rfl,?_⟩)
 refine F.hc (l6 e K E R N H I (λd v=> ?_) λo=>by rw[O] at o;exact sn o);obtain rfl:=sj<|v.symm.trans O;dsimp only[aA];rw[tg0n];dsimp only[bA,aH,aL,Qa,aM,aB,aA];refine cp ?_;dsimp only[aX,bw,eD,deq,aD,aF,Qa,aJ,aB,aA,aK];refine⟨⟨j5 t h w wd bd P,j5 t h w wd bd P⟩,?_⟩;rw[cQ];dsimp only[cy,aB];refine ct ?_;have pl:∀g:Pl->Bool,((PS h w g).map dP).length<lim:=λg=>by rw[Qd];exact cS<|QX (psl R g) (by decide)
 refine uO (x:="_law_again") (j:=0) (d:= .tup [.int 9,.int 9]) rfl rfl rfl (pl _) (λQ X q=> ?_) ?_
 ·(dsimp only[bS,fsts,dtup,aC,aG,aV,aU,aE,aI,aW,aT,aN,br];refine⟨by decide,?_⟩)
  exact q
 refine vg (x:="_law_again") (j:=2) rfl rfl rfl rfl ?_;refine lX (prD t h w P) (λΔ=>∃u,Δ=(Nb "_law_script" b (.scr ns)<|Nb "_law_table" c (dT t)<|Nb "_law_bound_here" Z (.int bd)<|Nb "_law_width_here" M (.int wd)<|Nb "_law_handed" V (dT t)<|Nb "_law_paper" A (papD t h w wd bd P)<|Nb "_law_kept" s (.list<|(papL t h w wd bd P).map .list)<|Nb "_law_tables" m (.list<|(PS h w P).map λp=>dT<|edT t h w P Jd p)<|Nb "_law_again" Jc .hole<|No "_law_pair_here" u<|[])) ?_ _ _ ⟨_,rfl⟩ λp U Δ z a S=> ?_
 ·rintro Δ ⟨u,rfl⟩;refine f7 ?_;refine cp ?_;dsimp only[cq,bw,aA,aX,eD,deq,aD,aF,Qa,aJ,aB,aK];refine bV rfl ?_;unfold papD;dsimp only[fsts,aC,aG,aU,aE,aI,aT,ck,aD,aF,Qa,aJ,aB,aA,aK,b6,tgl,bC,bL,bD,bK,bB,zM];refine iA D.list D.list (papL t h w wd bd P) _ _ (λl T K k=> ?_) λo0=> ?_
  ·dsimp only[bp,cA,b5,aM,Qa,aL,aB,aA,bJ];dsimp only[elD]
   (dsimp only[bl,ey,aC,aE,ca,aD,aJ,Qa,aF,aB,aA,aK,bj,pY,tgl];refine⟨rfl,?_⟩)
   exact k _
  dsimp only[bI];refine⟨⟨lj t h w wd bd P,lj t h w wd bd P⟩,?_⟩;rw[cQ];dsimp only[cy,aB];refine bV rfl ?_;dsimp only[fsts,aC,aG,aU,aE,aI,aT,ck,aR,aN,aD,aF,Qa,aJ,aB,aA,aK,b6,tgl,bC,bL,bD,bK];refine aY (tJ _ _ _ _) ?_;dsimp only[cw,bj,bB];refine iA (prD t h w P) (λp=>dT<|edT t h w P Jd p) _ _ _ (λp U K k=> ?_) λo0=> ?_
  ·dsimp only[bp,cA,b5,aM,Qa,aL,aA,aB,bJ];dsimp only[elD];dsimp only[aR,aN,aD,aJ,Qa,aF,aA,aB,aK];refine aY (qW _ _ _ _ _) ?_;exact k _
  dsimp only[bI];have B:D.okd 40 (.list<|(PS h w P).map λp=>dT<|edT t h w P Jd p)=Jc:=by rw[c9];exact b7 _ (λp=>kZ 37 _) _
  refine⟨⟨B,B⟩,?_⟩;rw[cQ];dsimp only[cy,aB];refine ct ?_;refine bM ?_
  (dsimp only[aX,aH,ej,deq,aD,aF,Qa,aJ,aB,aA,aK,aP,flags,aC,aG,aE,aI,bv,bj,aS];refine⟨rfl,?_⟩)
  refine F.hc (l6 e K E R N H I (λd v=> ?_) λo=>by rw[O] at o;exact sn o);obtain rfl:=sj<|v.symm.trans O;refine⟨⟨j5 t h w wd bd P,j5 t h w wd bd P⟩,?_⟩;refine F.qr (show Q (.bool<|D.eqv (papD t h w wd bd P) (papD t h w wd bd P)) Jc from ?_);rw[cQ];exact k
 ·obtain⟨u,rfl⟩:=z;have f:=(qG R N U Jd).rect R;have J:=(qG R N U Jc).rect R;dsimp only[b5,aL,Qa,aM,aA,aB,bJ];refine uO (x:="_law_pair_here") (j:=1) (d:=dI [1]) rfl rfl rfl (by rw[f.lenD];exact cS<|QX R.h8 (by decide)) (λQ X q=> ?_) ?_
  ·(dsimp only[bH,fsts,dnew,aC,aG,aV,aU,aE,aI,aW,aT,aN,br];refine⟨by decide,?_⟩)
   exact q
  refine cp ?_
  (dsimp only[aL,Qa,aA,aB,cq,bw,aX,eD,deq,bl,ce,aC,aE,ca,aD,aF,aK,cI,cN,cj,aR,aN,bq,dy];refine⟨rfl,?_⟩)
  refine aY (li _ _ _) ?_
  (dsimp only[cI,cN];refine⟨rfl,⟨rfl,rfl⟩,?_⟩)
  rw[QG,f.lenD,R.lenD];rw[show(!decide (((h+[dI [1]].length:Nat):Int)=(h:Int)+1))=Jd from by rw[Y4 (show((h+[dI [1]].length:Nat):Int)=(h:Int)+1 from rfl)];rfl]
  (dsimp only[aB];refine⟨rfl,?_⟩)
  refine aY (kA _ _ _) ?_
  (dsimp only[cI,cN];refine⟨rfl,⟨rfl,rfl⟩,?_⟩)
  rw[J.lenD,Y4 rfl];dsimp only[cy,aB];refine ct ?_;exact S _ ⟨_,rfl⟩
theorem tv(e:Env1 C G1 mg mb)(K:ClsC C cls8)(E:ClsC C cls9)(R:Rect t h w)(N:NN t)(v:1<=bd)(d:1<=wd)(O:hideF t h w wd bd=Ja (papD t h w wd bd P)){ns:List Int}{PX:DSX}(g:Gen C (n+9) Q X cl cu y PX)(k:Q (.bool Jc) Jc):
  dwss G1 cl cu (f_law.b.drop 9) (Nb "_law_script" b (.scr ns)<|Nb "_law_table" c (dT t)<|Nb "_law_bound_here" Z (.int bd)<|Nb "_law_width_here" M (.int wd)<|Nb "_law_handed" V (dT t)<|Nb "_law_paper" A (papD t h w wd bd P)<|Nb "_law_kept" F (.list<|(papL t h w wd bd P).map .list)<|No "_law_tables" Jb<|No "_law_again" Jb<|No "_law_pair_here" Jb<|[]) y PX:=by
 dsimp only[f_law,Yd];refine bk ?_;unfold papD;refine bV rfl ?_;dsimp only[fsts,aC,aG,aU,aE,aI,aT,ck,aR,aN,aD,aF,Qa,aJ,aB,aA,aK,b6,tgl,bC,bL,bD,bK];refine aY (tJ _ _ _ _) ?_;dsimp only[cw,bj,bB];refine bE (prD t h w P) (λp=>dT<|edT t h w P Jd p) (λp D K k=> ?_) ?_
 ·dsimp only[bp,cA,b5,aM,Qa,aL,aA,aB,bJ];dsimp only[elD];refine bV rfl ?_;dsimp only[fsts,aC,aG,aU,aE,aI,aT,ck,aR,aN,aD,aJ,Qa,aF,aA,aB,aK];refine aY (qW _ _ _ _ _) ?_;dsimp only[cw,bj];refine bE dI dI (λr T K k=> ?_) ?_
  ·dsimp only[bp,cA,b5,aM,Qa,aL,aB,aA,bJ];dsimp only[elD]
   (dsimp only[bl,ey,aC,aE,ca,aD,aJ,Qa,aF,aB,aA,aK,bj,pY,tgl];refine⟨rfl,?_⟩)
   rw[de _ k8];exact k
  ·exact k
 dsimp only[bA,aH,aL,Qa,aM,aB,aA];refine jh ?_
 (dsimp only[aP,flags,aC,aG,aE,aI,aN,aH,bH,fsts,dnew,aV,aU,aW,aT,br];refine⟨rfl,by decide,by decide,by decide,?_⟩)
 exact g.hc<|l6 (t:=[[1,2],[2,1]]) (h:=2) (w:=2) e K E rect2 nn2 (by decide) (by decide) (λo0 o0=>l0 e K E R N v d O g k) λo0=>l0 e K E R N v d O g k
theorem Bu(e:Env1 C G1 mg mb)(K:ClsC C cls8)(E:ClsC C cls9){ns:List Int}(s:ns.length<=63)(k:Q (.bool Jc) Jc):aQ (aO C (n+10)) "law" [(.scr ns,b)] Q X:=by
 refine e.fn f_law (bu 43 rfl) rfl λcl cu y PX g=> ?_;dsimp only[f_law];dsimp only[aZ,ch,bt];refine bk ?_
 (dsimp only[aP,flags,aC,aG,aU,aE,aI,aT,aD,aF,Qa,aJ,aB,aA,aK,gJ,aH,br,bB];refine⟨rfl,?_⟩)
 refine g.hc (wC e s λt h w R N=> ?_);dsimp only[aA,bj,bA,aH,aL,Qa,aM,aB];refine bk ?_
 (dsimp only[aP,flags,aC,aG,aU,aE,aI,aT,aD,aF,Qa,aJ,aB,aA,aK,gJ,aH,br,bB];refine⟨rfl,?_⟩)
 refine g.hc (vC e s λbd v=> ?_);dsimp only[aA,bv,bA,aH,aL,Qa,aM,aB];refine bk ?_
 (dsimp only[aP,flags,aC,aG,aU,aE,aI,aT,aD,aF,Qa,aJ,aB,aA,aK,bj,aS,bB,gJ,aH,br,cb,bI];refine⟨rfl,?_⟩)
 refine g.hc (wM e s R λwd H=> ?_);dsimp only[aA,bv,bA,aH,aL,Qa,aM,aB];refine bk ?_;refine bV rfl ?_;dsimp only[fsts,aC,aG,aU,aE,aI,aT,ck,aD,aF,Qa,aJ,aB,aA,aK,bj,bB,cw];refine bE dI dI (λr T K k=> ?_) ?_
 ·dsimp only[bp,cA,b5,aM,Qa,aL,aB,aA,bJ];dsimp only[elD]
  (dsimp only[bl,ey,aC,aE,ca,aD,aJ,Qa,aF,aB,aA,aK,bj,pY,tgl];refine⟨rfl,?_⟩)
  rw[de _ k8];exact k
 dsimp only[bA,aH,aL,Qa,aM,aB,aA];refine bk ?_
 (dsimp only[aP,flags,aC,aG,aU,aE,aI,aT,aD,aF,Qa,aJ,aB,aA,aK,bv,aH,br,bj,aS,bB,cb,bI];refine⟨rfl,?_⟩)
 refine g.hc<|l6 e K E R N v H (λd q=> ?_) λo=> ?_
 ·obtain⟨P,rfl,F⟩:=v9 R N q;dsimp only[aA];rw[tg0n];dsimp only[bA,aH,aL,Qa,aM,aB,aA];refine cp ?_;dsimp only[aX,bw,eD,deq,aD,aF,Qa,aJ,aB,aA,aK];refine⟨⟨kZ 38 t,kZ 38 t⟩,?_⟩;rw[cQ];dsimp only[cy,aB];refine ct ?_;refine cp ?_
  (dsimp only[dw,bw,aD,aF,Qa,aJ,aB,aA,aK];refine⟨rfl,?_⟩)
  rw[show D.isNone (papD t h w wd bd P)=Jd from rfl];dsimp only[aB];refine ct ?_;refine cp ?_
  (dsimp only[bW,bw,aP,flags,aC,aG,aE,aI,aD,aF,Qa,aJ,aB,aA,aK,bv,aH,bj,aS];refine⟨rfl,?_⟩)
  refine g.hc<|vT e R N H F ?_;dsimp only[bw,cy,aB];refine ct ?_;refine bk ?_;unfold papD;refine bV rfl ?_;dsimp only[fsts,aC,aG,aU,aE,aI,aT,ck,aD,aF,Qa,aJ,aB,aA,aK,b6,tgl,bC,bL,bD,bK,bB,zM];refine iA D.list D.list (papL t h w wd bd P) _ _ (λl M K k=> ?_) λB=> ?_
  ·dsimp only[bp,cA,b5,aM,Qa,aL,aB,aA,bJ];dsimp only[elD]
   (dsimp only[bl,ey,aC,aE,ca,aD,aJ,Qa,aF,aB,aA,aK,bj,pY,tgl];refine⟨rfl,?_⟩)
   exact k _
  rw[Ku];simp only[zv,zD,zR];dsimp only[aL,Qa,aM,aB,aA];exact tv e K E R N v H q g k
 ·dsimp only[aA,Ax,bA,aH,aL,Qa,aM,aB];refine cp ?_;dsimp only[aX,bw,eD,deq,aD,aF,Qa,aJ,aB,aA,aK];refine⟨⟨kZ 38 t,kZ 38 t⟩,?_⟩;rw[cQ];dsimp only[cy,aB];refine ct ?_;refine cp ?_
  (dsimp only[dw,bw,aD,aF,Qa,aJ,aB,aA,aK];refine⟨rfl,?_⟩)
  rw[oA];dsimp only[aA];refine bM ?_;dsimp only[cD,aH];exact g.qr k
theorem pure11(C:Cx)(mg mb:Jq->Option Jf)(g:GOK C G1 mg mb)(x:ExcOK C G1 mg mb)(k:C.ok)(J:∀t∈tab0,X4 λa o f body=>FnAt C t.f t.ps t.b a o f body)(l:∀c∈kinds7.cl,ClsC C c)(ns:List Int)(s:ns.length<=63):
  aO C 20 "law" [.scr ns] noPH (λv o0=>v= .bool Jc) λo0 o0=>False:=by
 have i:ClsC C cls8:=l _<|.head _;have K:ClsC C cls9:=l _<|.tail _ (.head _);have Y:∀t∈tab,X4 λa o f body=>FnAt C t.f t.ps t.b a o f body:=λt W=>by
  rcases Qn.mp (show t∈tab0++(cls8.ms++cls9.ms) from W) with q|q
  ·exact J t q
  ·rcases Qn.mp q with q|q
   ·obtain⟨o0,o0,o0,o0,o0,m⟩:=i;exact m t q
   ·obtain⟨o0,o0,o0,o0,o0,m⟩:=K;exact m t q
 exact Bu (n:=10) (b:=Jd) (Q:=λd o0=>d= .bool Jc) (X:=λo0 o0=>False) ⟨g,x,k,Y⟩ i K s rfl noPH [.scr ns] [[]] _ _ (.cons ⟨⟨rfl,Qv s (by decide)⟩,rfl⟩ (λq=>(nomatch q)) (λp D=>(nomatch D)) .nil) (λd b v T F q r=>by
  subst q;exact r.rd.1) λo0 o0 o0 o0 o0 q o0=>q
theorem hcf12:∀c∈kinds7.cl,kinds7.flds c.nm=c.fs:=λc Z=>by
 rcases Qt.mp Z with rfl|Z
 ·rfl
 ·rw[Qk.mp Z];rfl
theorem hnb12:∀c∈kinds7.cl,tab0.any (·.f==c.nm)=Jd:=λc Z=>by
 rcases Qt.mp Z with rfl|Z
 ·decide+kernel
 ·rw[Qk.mp Z];decide+kernel
end
section
open PySem.W PyProof.Rows
section
variable{tb:String->Option Builtin}{p:Jn}{w:Jm}{n₀:Nat}{ann:Option Jf}
theorem rM{n:Nat}:∀ {s s':SharedT} {t:Thread},j0 tb p w n₀ ann n s t=Ja s'->topRun tb p w n₀ ann n s.abs t=Ja s'.abs:=by
 induction n with
 |zero=>exact λh=>ns h
 |succ n ih=>
  intro s s' t h;replace h:cond (through t) (Ja s) (cond (stepOk n₀ ann t) ((stepT (denote tb) p w s t).bind λq=>j0 tb p w n₀ ann n q.1 q.2) Jb)=Ja s':=h;unfold topRun
  induction ht:through t with
  |true=>rw[ht] at h;exact Ub (λz=>Ja<|SharedT.abs z)<|sj h
  |false=>
   rw[ht] at h
   induction ho:stepOk n₀ ann t with
   |false=>rw[ho] at h;exact ns h
   |true=>
    rw[ho] at h;obtain⟨q,hs,h⟩:=Qr.mp h;rw[stepT_spec hs];exact ih h
theorem lE{life:Life}:∀ (os:List Jp) (t:BT) (n:Nat) (t':BT),mF os t n=Ja t'->absHeap t' (n+os.length) life=⟨(absHeap t n life).objs++os.toArray,life⟩
 |[],t,n,t',h=>by cases h;rw[Array.append_empty];rfl
 |o::os,t,n,t',h=>by
  have h:cond ((t.ins n o).get n).isSome (mF os (t.ins n o)<|n+1) Jb=Ja t':=h;cases g:((t.ins n o).get n).isSome with
  |false=>rw[g] at h;cases h
  |true=>
   rw[g] at h;have z:=lE (life:=life) os (t.ins n o) (n+1) t' h;rw[absHeap_ins g] at z;rw[KW,<-Ym,QL,z];show Heap.mk ((absHeap t n life).objs.push o++os.toArray) life=_
   congr 1
   apply Array.ext';simp
theorem wE{s:Je}{sT:SharedT}(h:toT s=Ja sT):sT.abs=s:=by
 obtain⟨t,e,rfl⟩:=Qs.mp h;have z:=lE (life:=s.heap.life) _ _ _ _ e;obtain⟨⟨objs,life⟩,gens,drawn,toks,os⟩:=s;dsimp only at z ⊢;rw[Wx,Array.length_toList] at z;unfold SharedT.abs;dsimp only;rw[z]
 congr 2
 simp[absHeap,BT.list]
theorem pW{N:Nat}{s₀ s:Je}(h:jv tb p w N s₀=Ja s):topFrom tb p w N s₀=Ja s:=by
 unfold jv at h;unfold topFrom;cases e1:(s₀.heap.isNs JA&&s₀.gens.size==0) with
 |false=>rw[e1] at h;cases h
 |true=>
  rw[e1] at h;dsimp only at h ⊢;obtain⟨s₁,h1,h2⟩:=Qr.mp h;obtain⟨sT,h3,h4⟩:=Qr.mp h1;have z:=rM h4;rw[wE h3] at z;rw[z];exact h2
theorem left_T{q:Jn}{loose:List Jq}{Xt:Je->Bool}{α:Type}{Yf:Je->α}{Ya:Jm->α}{N:Nat}{g0:Bool}
  (h:∀w:Jm,((fencedOpening Y1 p w N).bind (jv Y1 p w N)).map (λs=>(openSeen q loose (importedModules p.main.body) Xt g0 s,Yf s))=Ja (openGood q loose,Ya w)):LeftO p q loose Xt Yf Ya N g0:=λw=>by
 obtain⟨s,e,a⟩:=Qs.mp<|h w;obtain⟨s₀,e1,e2⟩:=Qr.mp e;unfold openEnds;rw[e1];show Wn _ (topFrom Y1 p w N s₀)=_;rw[pW e2];exact Ub Ja a
end
end
end Vl.Internal
end
open PySem.W PyProof.Rows
set_option maxRecDepth 100000 in
set_option maxHeartbeats 0 in
theorem PySem.Challenge.cw_uf010011_11_holds : PySem.Challenge.rw_uf010011_11.Holds := by
 w_on
 refine holds_law (by decide+kernel) λsaid=> ?_;refine holds_open (q:=Vl.Internal.view7) (loose:=[]) (Xt:=λs=>recOk (RowW.records<|OpenRow.toRowW (OpenLaw.row PySem.Challenge.rw_uf010011_11)) s) (XP:=λo0 o0=>True) (Yf:=Hook.obs<|Vl.Internal.hookE Vl.Internal.kinds7) (Ya:=Hook.val<|Vl.Internal.hookE Vl.Internal.kinds7) (YP:=Hook.says<|Vl.Internal.hookE Vl.Internal.kinds7) (N:=20000) ?hl (Hook.of<|Vl.Internal.hookE Vl.Internal.kinds7) (Hook.keeps<|Vl.Internal.hookE Vl.Internal.kinds7) (λo0 o0=>trivial) (λo0 o0 o0 o0 o0=>trivial) (by rfl) (by rfl) (by rfl) (λs e=>recFacts_of e) (by rfl) (by assumption) (by decide+kernel) ⟨rfl,rfl,rfl,rfl,rfl,by decide+kernel⟩ ?hw ?hc
 case hl=>exact Vl.Internal.left_T Vl.Internal.hl8
 case hw=>w_witness2
 case hc=>exact Vl.Internal.law_walk (N:=20) [("MOST",.int 8),("ROW",.str "row"),("COLUMN",.str "column")] Vl.Internal.tab0 Vl.Internal.kinds7 rfl rfl rfl (by decide+kernel) (by decide+kernel) (by decide+kernel) (by decide) Vl.Internal.hcf12 Vl.Internal.hnb12 Vl.Internal.pure11
